/- Part 11 of a proof. Conditions: those that its theorems state. -/
import Derived.Test.YtklaicomfolefaaU08
import Derived.Test.YtklaicomfolefaaU10
set_option linter.unusedSimpArgs false
set_option linter.unusedVariables false
set_option maxHeartbeats 40000000
set_option maxRecDepth 4000
namespace Go.Proofs.Ytklaicomfolefaa
open Go.Gar
def small(l:List A5):Prop:=∀g∈l,g.by_.length<=100000
theorem Ab{l:List A5}(h:small l){k:Nat}{x:A5}(hx:l[k]? =some x):x.by_.length<=100000:=h x (List.mem_of_getElem? hx)
theorem AJ{α:Type}{l:List α}{k:Nat}{x:α}(hx:l[k]? =some x):l.take (k+1)=l.take k++[x]:=by
 rw[List.take_add_one,hx];rfl
theorem IE(l:List A5)(n:Int)(hl:l.length<=1000)(hs:small l):Ox 28 [.d (AQ.d ⟨l,n⟩)] [] (.ag [.sl 2 l.length 3,.Oo n]) [.gone,.c [.sl 2 l.length 3,.Oo n],.a (A0 l)]:=by
 refine zD AM Try.func28 ?_;refine wd [0,1,2,3,4,9] [] AA AA ?_;with_reducible repeat' first|constructor|intro hc
 refine D4 (A6.Je 3 (.sl 3 []) rfl rfl rfl (by simp[AI])) sm ?_;refine Aq (fun k=>k<=l.length) (fun k:Nat=>⟨[(1,.ptr 0 0 2),(2,.ptr 1 0 2),(3,.sl 2 (l.take k).length 3),(4,.Oo k)],[.c [.d (A0 l),.Oo n],.c [.e0,.Oo 0],.a (A0 (l.take k))],24⟩) (fun k=>l.length-k) 0 (Q7 _) ?_ (PL _) ?_
 .exact A6.ck rfl
 intro k hk;have htl:(l.take k).length<=k:=List.length_take_le _ _
 by_cases hkl:k<l.length
 .obtain⟨x,hx⟩:=Ac hkl;have hb:=Ab hs hx;have ix1:=hx;refine wd [0,1,2,3,4,9] [] AA (BC (ED x hb)) ?_;clear ix1;with_reducible repeat' first|constructor|intro hc
  refine⟨k+1,hkl,om,PL _,?_⟩;exact(have nC:=PV (AJ hx) (PV @A0.eq_1 @A5.AX.eq_1);A6.cn rfl)
 .have e:k=l.length:=om
  subst e;rw[Pz];refine wd [0,1,2,3,4,9] [] AA AA ?_;with_reducible repeat' first|constructor|intro hc
  exact⟨⟨[(2,.ptr 1 0 2)],[.gone,.c [.sl 2 l.length 3,.Oo n],.a (A0 l)],Try.f28.ntmps⟩,(A6.ck rfl),Q7 _,_,_,rfl,rfl,rfl,rfl⟩
end Go.Proofs.Ytklaicomfolefaa
