/- Part 4 of a proof. Conditions: those that its theorems state. -/
import Derived.Test.YtkljbfejbakooaaGreatDoorT03
set_option linter.unusedSimpArgs false
set_option linter.unusedVariables false
set_option maxHeartbeats 40000000
set_option maxRecDepth 4000
namespace Go.Gar
def sq(t:Nat):List Operand->Bool
 |[]=>false
 | .tmp u::r=>Nat.beq t u||sq t r
 |_::r=>sq t r
def jS(t:Nat)(op:Op):Bool:=
 match callOf op with
 |some (_,l)=>sq t l
 |none=>false
section
variable {P:Program}{ro:wk}{ops:wl}{i:Nat}{rest:wm}{Q:Exit->St->Prop}{o:Oper}{en:xF}{hp:xS}{nt:Nat}
theorem Xfz(t:Nat){id:Nat}{x:D}{n sz:Nat}(_:jS t o.op=true)(ht:get en t=some (.sl id n sz))(hid:hp[id]? =some (.a x))(hn:n=BK x)(k:Wl P ro ops i (o::rest) ⟨(t,.d x)::en,EP id x 0 hp,nt⟩ Q):Wl P ro ops i (o::rest) ⟨en,hp,nt⟩ Q:=
 J7 (A6.kE (S:=⟨en,hp,nt⟩) t id hid ht hn) (by show hp.length<=(EP id x 0 hp).length;rw[E5];exact xH _) k
end
end Go.Gar
