/- Part 4 of a proof, put together by a program. Conditions: none beyond those that a theorem states. -/
import Derived.Test.YtkljbfejbakooaaGreatDoorB03
set_option linter.unusedSimpArgs false
set_option linter.unusedVariables false
set_option linter.unnecessarySimpa false
set_option maxHeartbeats 40000000
namespace Go.Gar
def bQ (t : Nat) : List Operand → Bool
 | [] => false
 | .tmp u :: r => Nat.beq t u || bQ t r
 | _ :: r => bQ t r
def Vy (t : Nat) (op : Op) : Bool :=
 match callOf op with
 | some (_,l) => bQ t l
 | none => false
section
variable {P : Program} {ro : Option Nat} {ops : Array Oper} {i : Nat} {rest : List Oper} {Q : Exit → St → Prop} {o : Oper} {en : List (Nat × AV)} {hp : List A2} {nt : Nat}
theorem Xfz (t : Nat) {id : Nat} {x : D} {n sz : Nat} (_ : Vy t o.op = true) (ht : get en t = some (.sl id n sz)) (hid : hp[id]? = some (.a x)) (hn : n = A9 x) (k : Wl P ro ops i (o :: rest) ⟨(t,.d x) :: en,Dg id x 0 hp,nt⟩ Q) : Wl P ro ops i (o :: rest) ⟨en,hp,nt⟩ Q :=
 Gx (A1.Z2 (S:=⟨en,hp,nt⟩) t id hid ht hn) (by show hp.length ≤ (Dg id x 0 hp).length;rw [H6];exact Nat.le_refl _) k
end
end Go.Gar
