/- The frame of these proofs, part D: a triple over the model's code with an abstract state (plain data, a small abstract heap), its rules, and the way from a given row to it.
Conditions: none; what each theorem asks stands in its own hypotheses. -/
import Derived.Test.YtbpemnmpcljbpaaGreatFwC
set_option linter.unusedSimpArgs false
set_option linter.unusedVariables false
set_option linter.unnecessarySimpa false
/- The frame, part 33: freezing within a region. -/
namespace Go.Gar

def hasT (t : Nat) : List Operand → Bool
  | [] => false
  | .tmp u :: r => Nat.beq t u || hasT t r
  | _ :: r => hasT t r
/-- The operation calls a function, an argument of which is the temporary. -/
def callsT (t : Nat) (op : Op) : Bool :=
  match callOf op with
  | some (_, l) => hasT t l
  | none => false

section
variable {P : Program} {ro : Option Nat} {ops : Array Oper} {i : Nat} {rest : List Oper} {Q : Exit → St → Prop} {o : Oper} {en : List (Nat × AV)} {hp : List Blk} {nt : Nat}

end
end Go.Gar
