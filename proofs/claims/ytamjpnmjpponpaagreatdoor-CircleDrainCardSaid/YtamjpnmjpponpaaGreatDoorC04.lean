/- Part 4 of a proof. Conditions: those that its theorems state. -/
import Derived.Test.YtamjpnmjpponpaaGreatDoorC03
set_option linter.unusedSimpArgs false
set_option linter.unusedVariables false
set_option maxHeartbeats 40000000
set_option maxRecDepth 4000
namespace Go.Gar
def uj(t:Nat):List Operand->Bool
 |[]=>false
 | .tmp u::r=>Nat.beq t u||uj t r
 |_::r=>uj t r
def kY(t:Nat)(op:Op):Bool:=
 match callOf op with
 |some (_,l)=>uj t l
 |none=>false
section
variable {P:Program}{ro:yb}{ops:yd}{i:Nat}{rest:yf}{Q:Exit->St->Prop}{o:Oper}{en:yv}{hp:z6}{nt:Nat}
theorem Xfz(t:Nat){id:Nat}{x:D}{n sz:Nat}(_:kY t o.op=true)(ht:get en t=some (.sl id n sz))(hid:hp[id]? =some (.a x))(hn:n=BP x)(k:Wl P ro ops i (o::rest) ⟨(t,.d x)::en,F8 id x 0 hp,nt⟩ Q):Wl P ro ops i (o::rest) ⟨en,hp,nt⟩ Q:=
 Ho (A8.qt (S:=⟨en,hp,nt⟩) t id hid ht hn) (by show hp.length<=(F8 id x 0 hp).length;rw[Fs];exact zN _) k
end
end Go.Gar
