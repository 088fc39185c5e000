/- Part 10 of a proof. Conditions: those that its theorems state. -/
import Derived.Test.YtmlaifbbpdanmaaV08
import Derived.Test.YtmlaifbbpdanmaaV09
set_option linter.unusedSimpArgs false
set_option linter.unusedVariables false
set_option maxHeartbeats 40000000
set_option maxRecDepth 4000
namespace Go.Proofs.Ytmlaifbbpdanmaa
open Go.Gar
def small(l:List AF):Prop:=∀g∈l,g.by_.length<=100000
variable {k:Nat}
theorem Ay{l:List AF}(h:small l){x:AF}(hx:l[k]? =some x):x.by_.length<=100000:=h x (Ro hx)
theorem Al{α:Type}{l:List α}{x:α}(hx:l[k]? =some x):l.take (k+1)=l.take k++[x]:=by
 rw[List.take_add_one,hx];rfl
theorem NA(l:List AF)(n:Int)(hl:l.length<=1000)(hs:small l):QL 6 [.d (Av.d ⟨l,n⟩)] [] (.ag [.sl 2 l.length 3,.QF n]) [.gone,.c [.sl 2 l.length 3,.QF n],.a (A1 l)]:=by
 refine zD A7 Try.func6 ?_;refine AC [0,1,2,3,4,9] ?_;with_reducible repeat' first|constructor|intro hc
 refine Ae (A3.OQ 3 (.sl 3 []) rfl rfl rfl (by simp[AX])) sm ?_;refine AT (fun k=>k<=l.length) (fun k:Nat=>⟨[(1,.ptr 0 0 2),(2,.ptr 1 0 2),(3,.sl 2 (l.take k).length 3),(4,.QF k)],[.c [.d (A1 l),.QF n],.c [.e0,.QF 0],.a (A1 (l.take k))],24⟩) (fun k=>l.length-k) 0 (RN _) ?_ (Qn _) ?_
 .exact A3.ck rfl
 intro k hk;have htl:(l.take k).length<=k:=List.length_take_le _ _
 by_cases hkl:k<l.length
 .obtain⟨x,hx⟩:=B1 hkl;have hb:=Ay hs hx;have ix1:=hx;refine Ex [0,1,2,3,4,9] ?_ (C0 (OH x hb));clear ix1;with_reducible repeat' first|constructor|intro hc
  refine⟨k+1,hkl,om,Qn _,?_⟩;exact(have nC:=RI (Al hx) (RI @A1.eq_1 @AF.C1.eq_1);A3.cn rfl)
 .have e:k=l.length:=om
  subst e;rw[SK];refine AC [0,1,2,3,4,9] ?_;with_reducible repeat' first|constructor|intro hc
  exact wE
abbrev Ez:QQ:=[0,1,2,4,6,7,8,9,10,22]
def step(b:Av)(g:AF):Av:=if b.grams.length<400/\g.by_.length<=120 then⟨b.grams++[g],b.lost⟩else⟨b.grams,IntKind.wrap .i64 (b.lost+1)⟩
def Dt(b:Av)(l:List AF):Av:=l.foldl step b
theorem LZ(b:Av){l:List AF}{x:AF}(hx:l[k]? =some x):Dt b (l.take (k+1))=step (Dt b (l.take k)) x:=by
 unfold Dt;rw[Al hx,List.foldl_append];rfl
variable {b:Av}
theorem OJ{g:AF}(h:b.grams.length<400/\g.by_.length<=120):step b g=⟨b.grams++[g],b.lost⟩:=Rf h
theorem NG{g:AF}(h:¬(b.grams.length<400/\g.by_.length<=120)):step b g=⟨b.grams,IntKind.wrap .i64 (b.lost+1)⟩:=Rw h
theorem OK(b:Av)(g:AF):(step b g).grams.length<=b.grams.length+1:=by
 unfold step;split<;>simp
theorem OF(b:Av)(l:List AF):(Dt b l).grams.length<=b.grams.length+l.length:=by
 induction l generalizing b with
 |nil=>exact Qn _
 |cons g r ih=>
  have h1:=ih (step b g);have h2:=OK b g;simp only[Dt,List.foldl_cons,Qz]at h1|-;omega
theorem P4(b:Av)(l:List AF)(hb:b.grams.length<=1000)(hl:l.length<=1000)(hs:small l):
  QL 18 [.ag [.sl 0 b.grams.length 3,.QF b.lost],.d (A1 l)] [.a (A1 b.grams)] (.ag [.sl 0 (Dt b l).grams.length 3,.QF ((Dt b l).lost)])
   [.a (A1 (Dt b l).grams),.gone,.c [.sl 0 (Dt b l).grams.length 3,.QF ((Dt b l).lost)]]:=by
 refine zD A7 Try.func18 ?_;refine AC Ez ?_;with_reducible repeat' first|constructor|intro hc
 refine AT (fun k=>k<=l.length) (fun k:Nat=>⟨[(2,.ptr 1 0 2),(4,.ptr 2 0 2),(7,.d (A1 l)),(8,.QF l.length),(9,.QF k)],[.a (A1 (Dt b (l.take k)).grams),.c [.sl 0 (Dt b (l.take k)).grams.length 3,.QF ((Dt b (l.take k)).lost)],.c [.e0,.QF 0]],36⟩) (fun k=>l.length-k) 0 (RN _) ?_ (Qn _) ?_
 .exact A3.ck rfl
 intro k hk;have hle:=OF b (l.take k);rw[List.length_take]at hle
 by_cases hkl:k<l.length
 .obtain⟨x,hx⟩:=B1 hkl;have hxb:=Ay hs hx;have hn:=LZ b hx;generalize Dt b (l.take k)=c at*
  by_cases hA:c.grams.length<400/\x.by_.length<=120
  .rw[OJ hA]at hn;have ix1:=hx;refine Ex Ez ?_ (C0 (BU x hxb));clear ix1;with_reducible repeat' first|constructor|intro hc
   all_goals first
    |(exfalso;omega)
    |skip
   refine⟨k+1,hkl,om,Qn _,?_⟩;exact(have nC:=RI hn (RI @A1.eq_1 @AF.C1.eq_1);A3.cn rfl)
  .rw[NG hA]at hn;have ix1:=hx;have wr:Lv [32]:=trivial;refine Ex Ez ?_ (C0 (BU x hxb));clear wr ix1;with_reducible repeat' first|constructor|intro hc
   all_goals first
    |(exfalso;omega)
    |(refine⟨k+1,hkl,om,Qn _,?_⟩;exact(have nC:=hn;A3.cn rfl))
 .have e:k=l.length:=om
  subst e;rw[SK]at *;refine AC Ez ?_;with_reducible repeat' first|constructor|intro hc
  exact wE
theorem Ml(h:b.great=false):b.grams.length<=420/\small b.grams:=by
 simp only[Av.great,Bool.or_eq_false_iff,decide_eq_false_iff_not]at h;refine⟨om,fun g hg=> ?_⟩;have h1:=h.1;rw[List.take_of_length_le om,List.any_eq_false]at h1;have:=h1 g hg;simp only[Qv]at this;omega
end Go.Proofs.Ytmlaifbbpdanmaa
