/- Part 20 of a proof. Conditions: those that its theorems state. -/
import Derived.Test.YtklaicomfolefaaU16
set_option linter.unusedSimpArgs false
set_option linter.unusedVariables false
set_option maxHeartbeats 40000000
set_option maxRecDepth 4000
namespace Go.Proofs.Ytklaicomfolefaa
open Go.Gar
abbrev EN:P0:=[0,1,2,4,5,11,26]
abbrev EO:P0:=[0,1,2,4,5,6,11,21]
theorem HQ(b:AQ)(hl:b.grams.length<=1000)(hs:small b.grams):Ov 28 [b.d] b.d:=by
 refine Gl (IE b.grams b.lost hl hs) ?_;simp[IV,EP,F6,Kx,IW,AQ.d,AD]
theorem IF(b:AQ)(l:List A5)(hb:b.grams.length<=1000)(hbs:small b.grams)(hl:l.length<=1000)(hs:small l):Ov 14 [b.d,A0 l] (BL b l).d:=by
 obtain⟨gs,n⟩:=b;replace hb:gs.length<=1000:=hb;refine zF AM Try.func14 ?_;have d1:=Ds.mk [] (IE gs n hb hbs);refine wd EN [] AA AA ?_;clear d1;with_reducible repeat' first|constructor|intro hc
 refine Aq (fun k=>k<=l.length) (fun k:Nat=>⟨[(1,.d (A0 l)),(2,.ptr 0 0 2),(4,.ptr 1 0 2),(5,.Oo k)],[.c [.sl 4 (BL ⟨gs,n⟩ (l.take k)).grams.length 3,.Oo ((BL ⟨gs,n⟩ (l.take k)).lost)],.c [.e0,.Oo 0],.gone,.gone,.a (A0 (BL ⟨gs,n⟩ (l.take k)).grams)],42⟩) (fun k=>l.length-k) 0 (Q7 _) ?_ Ou ?_
 .exact A6.ck rfl
 intro k hk;have hle:=F1 ⟨gs,n⟩ (l.take k);rw[QT]at hle;replace hle:(BL ⟨gs,n⟩ (l.take k)).grams.length<=gs.length+min k l.length:=hle
 by_cases hkl:k<l.length
 .obtain⟨x,hx⟩:=Ac hkl;have hxb:=Ab hs hx;have hn:=Gc ⟨gs,n⟩ hx;generalize BL ⟨gs,n⟩ (l.take k)=c at*
  by_cases hA:c.grams.length<400/\x.by_.length<=120
  .rw[K5 hA]at hn;have ix1:=hx;refine wd EN [] AA (BC (ED x hxb)) ?_;clear ix1;with_reducible repeat' first|constructor|intro hc
   all_goals first
    |(exfalso;omega)
    |skip
   refine⟨k+1,hkl,om,PL _,?_⟩;exact(have nC:=PV hn (PV @A0.eq_1 @A5.AX.eq_1);A6.cn rfl)
  .rw[IM hA]at hn;have ix1:=hx;have wr:Lv [29]:=trivial;refine wd EN [] AA (BC (ED x hxb)) ?_;clear wr ix1;with_reducible repeat' first|constructor|intro hc
   all_goals first
    |(exfalso;omega)
    |(refine⟨k+1,hkl,om,PL _,?_⟩;exact(have nC:=hn;A6.cn rfl))
 .have e:k=l.length:=om
  subst e;rw[Pz]at *;refine wd EN [] AA AA ?_;with_reducible repeat' first|constructor|intro hc
  exact IS (PV @AQ.d.eq_1 @A0.eq_1)
theorem KJ{α:Type}(l:List α)(a:Nat):l.eraseIdx a=l.take a++l.drop (a+1):=List.eraseIdx_eq_take_drop_succ _ _
theorem De{l:List A5}{n AU:Int}(h:AQ.Cg ⟨l,n⟩ AU=false):AU<0\/(l.length:Int)<=AU:=by
 simp only[AQ.Cg,Bool.and_eq_false_iff,decide_eq_false_iff_not]at h;omega
theorem IG(b:AQ)(AU:Int)(hb:b.grams.length<=1000)(hbs:small b.grams):Ov 11 [b.d,.i .i64 AU] (.tup [(takeB b AU).1.d,(takeB b AU).2.1.d,.b (takeB b AU).2.2]):=by
 have hO:=HQ b hb hbs;obtain⟨gs,n⟩:=b;replace hb:gs.length<=1000:=hb;refine zF AM Try.func11 ?_;unfold takeB
 cases h:AQ.Cg ⟨gs,n⟩ AU with
 |true=>
  obtain⟨a,rfl,ha⟩:=By h;replace ha:a<gs.length:=ha;obtain⟨x,hx⟩:=Ac ha;have hg:gs.getD a BN=x:=by rw[PW,hx];rfl
  have hE:=KJ gs a;simp only[Int.toNat_natCast,hg,QC];have g0:decide ((a:Int)<0)=false:=Pv om;have g1:decide ((a:Int)>=(gs.length:Int))=false:=Pv om;have ix1:=hx;have ow:Lv [31]:=trivial;refine wd [0,1,2,4,5,6,7,18] [6] (Ha g0 g1) (BC @hO) ?_ [(6,5),(7,5)];clear ow ix1;with_reducible repeat' first|constructor|intro hc
  have e1:((a:Int)+1).toNat=a+1:=om
  rw[e1];refine wd [0,1,2,4,5,6,7,18] [] AA AA ?_ [(1,2)];with_reducible repeat' first|constructor|intro hc
  refine⟨_,_,rfl,rfl,?_⟩;simp[Gk,AD,AO,AI,AQ.d,A0,hx,A5.d,A5.AX,hE,QD,List.map_take,List.map_drop]
 |false=>
  have hx:=De h;refine wd [0,1,2,4,5,6,7,18] [] AA (BC @hO) ?_;with_reducible repeat' first|constructor|intro hc
  all_goals first
   |(exfalso;omega)
   |(refine⟨_,_,rfl,rfl,?_⟩;simp[Gk,AD,AO,AI,AQ.d,A0,A5.d,A5.AX,BN];done)
theorem M4(b:AQ)(AU:Int)(hb:b.grams.length<=1000)(hbs:small b.grams):Ov 17 [b.d,.i .i64 AU] (.tup [(DK b AU).1.d,.i .i64 (DK b AU).2]):=by
 have hT:=IG b AU hb hbs;obtain⟨gs,n⟩:=b;replace hb:gs.length<=1000:=hb;refine zF AM Try.func17 ?_;unfold DK;unfold takeB at hT
 cases h:AQ.Cg ⟨gs,n⟩ AU with
 |true=>
  rw[h]at hT;simp only[QC]at hT|-;generalize gs.eraseIdx AU.toNat=r at *;generalize gs.getD AU.toNat BN=x at *;unfold A5.d A5.AX at hT;have wr:Lv [21]:=trivial;refine wd [0,1,2,4,5,6,8,17] [] AA (BC @hT) ?_;clear wr;with_reducible repeat' first|constructor|intro hc
  exact IS (PV @AQ.d.eq_1 @A0.eq_1)
 |false=>
  rw[h]at hT;simp only[Py,QK]at hT|-;unfold A5.d A5.AX BN at hT;refine wd [0,1,2,4,5,6,8,17] [] AA (BC @hT) ?_;with_reducible repeat' first|constructor|intro hc
  exact IS (PV @AQ.d.eq_1 @A0.eq_1)
theorem Ke(b:AQ)(AU:Int)(hb:b.grams.length<=1000)(hbs:small b.grams):Ov 19 [b.d,.i .i64 AU] (.tup [(CC b AU).1.d,.i .i64 (CC b AU).2]):=by
 have hO:=HQ b hb hbs;obtain⟨gs,n⟩:=b;replace hb:gs.length<=1000:=hb;refine zF AM Try.func19 ?_;unfold CC
 cases h:AQ.Cg ⟨gs,n⟩ AU with
 |true=>
  obtain⟨a,rfl,ha⟩:=By h;replace ha:a<gs.length:=ha;obtain⟨x,hx⟩:=Ac ha;have hg:gs.getD a BN=x:=by rw[PW,hx];rfl
  have hS:=IF ⟨gs,n⟩ [x] hb hbs sm (by intro g hg;simp at hg;subst hg;exact Ab hbs hx);simp only[Int.toNat_natCast,hg,QC];generalize BL ⟨gs,n⟩ [x]=p at *;have g0:decide ((a:Int)<0)=false:=Pv om;have g1:decide ((a:Int)>=(gs.length:Int))=false:=Pv om;have ix1:=hx;refine wd [0,1,2,4,5,14] [] (Ha g0 g1) (BC @hS) ?_;clear ix1;with_reducible repeat' first|constructor|intro hc
  all_goals first
   |(exfalso;omega)
   |(refine⟨_,_,rfl,rfl,?_⟩;simp[Gk,AD,AO,AI,AQ.d,A0];done)
 |false=>
  have hx:=De h;refine wd [0,1,2,4,5,14] [] AA (BC @hO) ?_;with_reducible repeat' first|constructor|intro hc
  all_goals first
   |(exfalso;omega)
   |(refine⟨_,_,rfl,rfl,?_⟩;simp[Gk,AD,AO,AI,AQ.d,A0];done)
theorem N7(b:AQ)(to:Int)(hb:b.grams.length<=1000):Ov 23 [b.d,.i .i64 to] (.is (DZ b.grams to b.grams.length)):=by
 obtain⟨l,n⟩:=b;replace hb:l.length<=1000:=hb;refine zF AM Try.func23 ?_;refine wd EO [] AA AA ?_;with_reducible repeat' first|constructor|intro hc
 refine D4 (A6.Je 5 (.is []) rfl rfl rfl trivial) sm ?_;refine Aq (fun k=>k<=l.length) (fun k:Nat=>⟨[(1,.Oo to),(2,.ptr 0 0 2),(5,.sl 1 (DZ l to k).length 1),(6,.Oo k)],[.c [.d (A0 l),.Oo n],.a (.is (DZ l to k))],27⟩) (fun k=>l.length-k) 0 (Q7 _) ?_ (PL _) ?_
 .exact A6.ck rfl
 intro k hk;have hle:=FZ l to k
 by_cases hkl:k<l.length
 .obtain⟨x,hx⟩:=Ac hkl
  by_cases hT:x.to=to
  .have hn:=Jl hx hT;have e1:(x.to==to)=true:=by simp[hT]
   have ix1:=hx;refine wd EO [] (BC e1) AA ?_;clear ix1;with_reducible repeat' first|constructor|intro hc
   refine⟨k+1,hkl,om,PL _,?_⟩;exact(have nC:=hn;A6.cn rfl)
  .have hn:=Hv hx hT;have e1:(x.to==to)=false:=by simp[hT]
   have ix1:=hx;refine wd EO [] (BC e1) AA ?_;clear ix1;with_reducible repeat' first|constructor|intro hc
   refine⟨k+1,hkl,om,PL _,?_⟩;exact(have nC:=hn;A6.cn rfl)
 .have e:k=l.length:=om
  subst e;refine wd EO [] AA AA ?_;with_reducible repeat' first|constructor|intro hc
  exact zE
end Go.Proofs.Ytklaicomfolefaa
