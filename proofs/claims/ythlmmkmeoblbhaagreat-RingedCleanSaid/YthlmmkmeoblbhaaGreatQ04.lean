/- Part 4 of a proof. Conditions: those that its theorems state. -/
import Derived.Test.YthlmmkmeoblbhaaGreatQ03
set_option linter.unusedSimpArgs false
set_option linter.unusedVariables false
set_option maxHeartbeats 40000000
set_option maxRecDepth 4000
namespace Go.Gar
def uY(t:Nat):List Operand->Bool
 |[]=>false
 | .tmp u::r=>Nat.beq t u||uY t r
 |_::r=>uY t r
def kO(t:Nat)(op:Op):Bool:=
 match callOf op with
 |some (_,l)=>uY t l
 |none=>false
section
variable {P:Program}{ro:yW}{ops:ya}{i:Nat}{rest:yb}{Q:Exit->St->Prop}{o:Oper}{en:yr}{hp:yz}{nt:Nat}
theorem Xfz(t:Nat){id:Nat}{x:D}{n sz:Nat}(_:kO t o.op=true)(ht:get en t=some (.sl id n sz))(hid:hp[id]? =some (.a x))(hn:n=B3 x)(k:Wl P ro ops i (o::rest) ⟨(t,.d x)::en,Eg id x 0 hp,nt⟩ Q):Wl P ro ops i (o::rest) ⟨en,hp,nt⟩ Q:=
 Rk (A5.lP (S:=⟨en,hp,nt⟩) t id hid ht hn) (by show hp.length<=(Eg id x 0 hp).length;rw[Dq];exact yV _) k
end
end Go.Gar
