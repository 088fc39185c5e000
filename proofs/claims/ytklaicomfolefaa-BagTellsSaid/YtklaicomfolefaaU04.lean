/- Part 4 of a proof. Conditions: those that its theorems state. -/
import Derived.Test.YtklaicomfolefaaU03
set_option linter.unusedSimpArgs false
set_option linter.unusedVariables false
set_option maxHeartbeats 40000000
set_option maxRecDepth 4000
namespace Go.Gar
def Nj(t:Nat):List Operand->Bool
 |[]=>false
 | .tmp u::r=>Nat.beq t u||Nj t r
 |_::r=>Nj t r
def LN(t:Nat)(op:Op):Bool:=
 match callOf op with
 |some (_,l)=>Nj t l
 |none=>false
section
variable {P:Program}{ro:P3}{ops:P4}{i:Nat}{rest:PC}{Q:Exit->St->Prop}{o:Oper}{en:Pa}{hp:Pf}{nt:Nat}
theorem Xfz(t:Nat){id:Nat}{x:D}{n sz:Nat}(_:LN t o.op=true)(ht:get en t=some (.sl id n sz))(hid:hp[id]? =some (.a x))(hn:n=AD x)(k:Wl P ro ops i (o::rest) ⟨(t,.d x)::en,Bw id x 0 hp,nt⟩ Q):Wl P ro ops i (o::rest) ⟨en,hp,nt⟩ Q:=
 FF (A6.OP (S:=⟨en,hp,nt⟩) t id hid ht hn) (by show hp.length<=(Bw id x 0 hp).length;rw[E1];exact PL _) k
end
end Go.Gar
