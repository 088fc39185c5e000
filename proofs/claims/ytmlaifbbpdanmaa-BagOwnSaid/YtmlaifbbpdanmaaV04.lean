/- Part 4 of a proof. Conditions: those that its theorems state. -/
import Derived.Test.YtmlaifbbpdanmaaV03
set_option linter.unusedSimpArgs false
set_option linter.unusedVariables false
set_option maxHeartbeats 40000000
set_option maxRecDepth 4000
namespace Go.Gar
def P0(t:Nat):List Operand->Bool
 |[]=>false
 | .tmp u::r=>Nat.beq t u||P0 t r
 |_::r=>P0 t r
def MK(t:Nat)(op:Op):Bool:=
 match callOf op with
 |some (_,l)=>P0 t l
 |none=>false
section
variable {P:Program}{ro:Qt}{ops:R0}{i:Nat}{rest:R1}{Q:Exit->St->Prop}{o:Oper}{en:R9}{hp:RE}{nt:Nat}
theorem Xfz(t:Nat){id:Nat}{x:D}{n sz:Nat}(_:MK t o.op=true)(ht:get en t=some (.sl id n sz))(hid:hp[id]? =some (.a x))(hn:n=AI x)(k:Wl P ro ops i (o::rest) ⟨(t,.d x)::en,Cn id x 0 hp,nt⟩ Q):Wl P ro ops i (o::rest) ⟨en,hp,nt⟩ Q:=
 GE (A3.Pp (S:=⟨en,hp,nt⟩) t id hid ht hn) (by show hp.length<=(Cn id x 0 hp).length;rw[Eg];exact Qn _) k
end
end Go.Gar
