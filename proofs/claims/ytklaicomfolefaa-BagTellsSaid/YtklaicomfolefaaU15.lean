/- Part 15 of a proof. Conditions: those that its theorems state. -/
import Derived.Test.YtklaicomfolefaaU12
import Derived.Test.YtklaicomfolefaaU14
set_option linter.unusedSimpArgs false
set_option linter.unusedVariables false
set_option maxHeartbeats 40000000
set_option maxRecDepth 4000
namespace Go.Proofs.Ytklaicomfolefaa
open Go.Gar
theorem Jv(l:List A5)(n:Int)(hl:l.length<=1000)(hs:small l):Ox 25 [.d (AQ.d ⟨l,n⟩)] [] (.ag [.sl 6 l.length 3,.Oo n]) [.gone,.c [.sl 6 l.length 3,.Oo n],.gone,.gone,.gone,.gone,.a (A0 l)]:=by
 refine zD AM Try.func25 ?_;have d1:=Ds.mk [] (JM l n hl hs);refine wd [0,1,2] [] AA AA ?_;clear d1;with_reducible repeat' first|constructor|intro hc
 exact⟨⟨[(2,.ptr 1 0 2)],[.gone,.c [.sl 6 l.length 3,.Oo n],.gone,.gone,.gone,.gone,.a (A0 l)],Try.f25.ntmps⟩,(A6.ck rfl),Q7 _,_,_,rfl,rfl,rfl,rfl⟩
theorem Fp(b:AQ)(hl:b.grams.length<=1000)(hs:small b.grams):Ov 25 [b.d] b.d:=by
 refine Gl (Jv b.grams b.lost hl hs) ?_;simp[IV,EP,F6,Kx,IW,AQ.d,AD]
theorem HU(b:AQ)(l:List A5)(hb:b.grams.length<=1000)(hbs:small b.grams)(hl:l.length<=1000)(hs:small l):Ov 13 [b.d,A0 l] (BL b l).d:=by
 obtain⟨gs,n⟩:=b;refine zF AM Try.func13 ?_;have d1:=Ds.mk [] (Jv gs n hb hbs);have d2:=Ds.mk [8] (Nq ⟨gs,n⟩ l hb hl hs);refine wd [0,1,2,4] [] AA AA ?_;clear d2 d1;with_reducible repeat' first|constructor|intro hc
 exact IS (PV @AQ.d.eq_1 @A0.eq_1)
theorem By{b:AQ}{AU:Int}(h:b.Cg AU=true):∃a:Nat,AU=a/\a<b.grams.length:=by
 simp only[AQ.Cg,P8,PO]at h;exact⟨AU.toNat,om,om⟩
def DK(b:AQ)(AU:Int):AQ×Int:=if b.Cg AU then(⟨b.grams.eraseIdx AU.toNat,IntKind.wrap .i64 (b.lost+1)⟩,0)else(b,2)
theorem Jd(b:AQ)(AU:Int)(hb:b.grams.length<=1000)(hbs:small b.grams):Ov 16 [b.d,.i .i64 AU] (.tup [(DK b AU).1.d,.i .i64 (DK b AU).2]):=by
 have hI:=Ex b AU;have hO:=Fp b hb hbs;refine zF AM Try.func16 ?_;unfold DK
 cases h:b.Cg AU with
 |true=>
  obtain⟨a,rfl,ha⟩:=By h;obtain⟨gs,n⟩:=b;have d1:=Ds.mk [] (IQ gs n a hb hbs);have wr:Lv [15]:=trivial;refine wd [0,1,2,4,5,9] [] (BC h) (BC @hI) ?_ [] true;clear wr d1;with_reducible repeat' first|constructor|intro hc
  exact IS (PV @AQ.d.eq_1 @A0.eq_1)
 |false=>
  obtain⟨gs,n⟩:=b;refine wd [0,1,2,4,5,9] [] (BC h) (Ha @hI @hO) ?_ [] true;with_reducible repeat' first|constructor|intro hc
  exact IS (PV @AQ.d.eq_1 @A0.eq_1)
def CC(b:AQ)(AU:Int):AQ×Int:=if b.Cg AU then(BL b [b.grams.getD AU.toNat BN],0)else(b,2)
theorem IP(b:AQ)(AU:Int)(hb:b.grams.length<=1000)(hbs:small b.grams):Ov 18 [b.d,.i .i64 AU] (.tup [(CC b AU).1.d,.i .i64 (CC b AU).2]):=by
 have hI:=Ex b AU;have hO:=Fp b hb hbs;refine zF AM Try.func18 ?_;unfold CC
 cases h:b.Cg AU with
 |true=>
  obtain⟨a,rfl,ha⟩:=By h;obtain⟨gs,n⟩:=b;replace ha:a<gs.length:=ha;obtain⟨x,hx⟩:=Ac ha;have hg:gs.getD a BN=x:=by rw[PW,hx];rfl
  have hS:=HU ⟨gs,n⟩ [x] hb hbs sm (by intro g hg;simp at hg;subst hg;exact Ab hbs hx);have ix1:=hx;refine wd [0,1,2,4,5,9] [] (BC h) (Ha @hI @hS) ?_ [] true;clear ix1;with_reducible repeat' first|constructor|intro hc
  exact IS (PV @AQ.d.eq_1 (PV @A0.eq_1 hx))
 |false=>
  obtain⟨gs,n⟩:=b;refine wd [0,1,2,4,5,9] [] (BC h) (Ha @hI @hO) ?_ [] true;with_reducible repeat' first|constructor|intro hc
  exact IS (PV @AQ.d.eq_1 @A0.eq_1)
def takeB(b:AQ)(AU:Int):AQ×A5×Bool:=if b.Cg AU then(⟨b.grams.eraseIdx AU.toNat,b.lost⟩,b.grams.getD AU.toNat BN,true)else(b,BN,false)
theorem HY(b:AQ)(AU:Int)(hb:b.grams.length<=1000)(hbs:small b.grams):Ov 10 [b.d,.i .i64 AU] (.tup [(takeB b AU).1.d,(takeB b AU).2.1.d,.b (takeB b AU).2.2]):=by
 have hI:=Ex b AU;have hO:=Fp b hb hbs;refine zF AM Try.func10 ?_;unfold takeB
 cases h:b.Cg AU with
 |true=>
  obtain⟨a,rfl,ha⟩:=By h;obtain⟨gs,n⟩:=b;replace ha:a<gs.length:=ha;obtain⟨x,hx⟩:=Ac ha;have hg:gs.getD a BN=x:=by rw[PW,hx];rfl
  have d1:=Ds.mk [3] (IR gs n a x hx hb hbs);refine wd [0,1,2,4,5,6,7,11] [] (BC h) (BC @hI) ?_ [(1,2)] true;clear d1;with_reducible repeat' first|constructor|intro hc
  exact IS (PV @AQ.d.eq_1 (PV @A0.eq_1 (PV hx (PV @A5.d.eq_1 @A5.AX.eq_1))))
 |false=>
  obtain⟨gs,n⟩:=b;refine wd [0,1,2,4,5,6,7,11] [] (BC h) (Ha @hI @hO) ?_ [] true;with_reducible repeat' first|constructor|intro hc
  exact IS (PV @AQ.d.eq_1 (PV @A0.eq_1 (PV @A5.d.eq_1 (PV @A5.AX.eq_1 @BN.eq_1))))
end Go.Proofs.Ytklaicomfolefaa
