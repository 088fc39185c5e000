/- Part 4 of the texts of this proof, put together by a program and made short.
Conditions: none; what each theorem asks stands in its own hypotheses. -/
import Derived.Test.YtnahkfkljohjaaaGreatDoorH03
set_option linter.unusedSimpArgs false
set_option linter.unusedVariables false
set_option linter.unnecessarySimpa false
set_option maxHeartbeats 40000000
namespace Go.Gar
def Zr (t : Nat) : List Operand → Bool
 | [] => false
 | .tmp u :: r => Nat.beq t u || Zr t r
 | _ :: r => Zr t r
def Ud (t : Nat) (op : Op) : Bool :=
 match callOf op with
 | some (_,l) => Zr t l
 | none => false
section
variable {P : Program} {ro : Option Nat} {ops : Array Oper} {i : Nat} {rest : List Oper} {Q : Exit → St → Prop} {o : Oper} {en : List (Nat × AV)} {hp : List AC} {nt : Nat}
theorem Xfz (t : Nat) {id : Nat} {x : D} {n sz : Nat} (_ : Ud t o.op = true) (ht : get en t = some (.sl id n sz)) (hid : hp[id]? = some (.a x)) (hn : n = A6 x) (k : Wl P ro ops i (o :: rest) ⟨(t,.d x) :: en,DN id x 0 hp,nt⟩ Q) : Wl P ro ops i (o :: rest) ⟨en,hp,nt⟩ Q :=
 P5 (A2.aU (S:=⟨en,hp,nt⟩) t id hid ht hn) (by show hp.length ≤ (DN id x 0 hp).length;rw [Ca];exact Nat.le_refl _) k
end
end Go.Gar
