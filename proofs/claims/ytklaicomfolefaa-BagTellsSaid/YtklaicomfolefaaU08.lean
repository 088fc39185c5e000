/- Part 8 of a proof. Conditions: those that its theorems state. -/
import Derived.Test.YtklaicomfolefaaU07
set_option linter.unusedSimpArgs false
set_option linter.unusedVariables false
set_option maxHeartbeats 40000000
set_option maxRecDepth 4000
namespace Go.Gar
abbrev Tm:=List (List (Pb))
def OW:List (Pb)->Nat->Pb
 |[],_=>none
 |x::_,0=>x
 |_::r,k+1=>OW r k
def OX:Tm->Nat->List (Pb)
 |[],_=>[]
 |c::_,0=>c
 |_::r,k+1=>OX r k
def tget(e:Tm)(t:Nat):Pb:=OW (OX e (t/8)) (t%8)
def small(e:Tm):P0->Pa
 |[]=>[]
 |t::r=>match tget e t with
  |some x=>(t,x)::small e r
  |none=>small e r
inductive Rq
 |c (ro:P3) (c:Code) (e:Tm) (H:Pf) (n:Nat)
 |lo (ro:P3) (c:Code) (e:Tm) (H:Pf) (n:Nat)
 |sc (ro:P3) (c0 c:Code) (e:Tm) (H:Pf) (n:Nat)
 |l (ro:P3) (ops:P4) (rest:PC) (e:Tm) (H:Pf) (n:Nat)
 |t (ro:P3) (ops:P4) (l:P1) (e:Tm) (H:Pf) (n:Nat)
 |d (ops:P4) (acc:List Rc) (ks:List Kd) (rest:PC) (e:Tm) (H:Pf) (n:Nat)
 |f (g:Nat) (xs:PT) (H:Pf)
 |p (g:Nat) (xs:PT) (b:Bool)
 |y (id:Nat) (xs:PT) (H:Pf)
abbrev Rz:=Exit×Tm×Pf
def one(x:AV)(H:Pf):Option Rz:=some (.normal,[[some x]],H)
end Go.Gar
namespace Go.Gar
section
variable {a b:Pa}(hs:∀t x,get a t=some x->get b t=some x)
include hs
end
end Go.Gar
namespace Go.Gar
section
variable {P:Program}{ro:P3}{S:St}{Q:Exit->St->Prop}{E:Nat->Option AF}
end
end Go.Gar
