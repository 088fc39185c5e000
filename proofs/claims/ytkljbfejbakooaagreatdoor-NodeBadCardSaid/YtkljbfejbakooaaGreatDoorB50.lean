/- Part 50 of a proof, put together by a program. Conditions: none beyond those that a theorem states. -/
import Derived.Test.YtkljbfejbakooaaGreatDoorB49
set_option linter.unusedSimpArgs false
set_option linter.unusedVariables false
set_option linter.unnecessarySimpa false
set_option maxHeartbeats 40000000
namespace Go.Proofs.YtkljbfejbakooaaGreatDoor
namespace Nd
open Go.Gar
set_option maxRecDepth 100000
def aH (g : Nat) (xs : List AV) : Option AV :=
 match Nat.beq g 11 && AV.FZ xs [x0] with
 | true => some x1
 | false => bk g xs
theorem XG : ∀ g xs y,aH g xs = some y → Ou Tryz.prog g xs y:=by
 intro g xs y h;unfold aH at h;split at h
 ·rename_i hc;rw [Bool.and_eq_true] at hc;cases h;rw [Nat.eq_of_beq_eq_true hc.1,AV.CY hc.2];exact eg
 ·exact TI _ _ _ h
theorem Y1 : Go.Gar.Fn Tryz.prog 10 [] (.b true) :=
 Ou.toFn ((Zz (kp:=keeps) A6 mixed aF XG 1000 (.p 10 [] false) (.normal,[[some (.d (.b true))]],[]) (by kernel_rfl) _ _ rfl).1 rfl)
end Nd
end Go.Proofs.YtkljbfejbakooaaGreatDoor
