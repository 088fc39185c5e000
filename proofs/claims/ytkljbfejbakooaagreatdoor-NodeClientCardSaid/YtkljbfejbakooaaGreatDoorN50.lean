/- Part 50 of a proof, put together by a program. Conditions: none beyond those that a theorem states. -/
import Derived.Test.YtkljbfejbakooaaGreatDoorN49
set_option linter.unusedSimpArgs false
set_option linter.unusedVariables false
set_option linter.unnecessarySimpa false
set_option maxHeartbeats 40000000
namespace Go.Proofs.YtkljbfejbakooaaGreatDoor
namespace Nd
open Go.Gar
set_option maxRecDepth 100000
def fL (g : Nat) (xs : List AV) : Option AV :=
 match Nat.beq g 11 && AV.Gc xs [x0] with
 | true => some x1
 | false => iQ g xs
theorem am : ∀ g xs y,fL g xs = some y → R0 Tryz.prog g xs y:=by
 intro g xs y h;unfold fL at h;split at h
 ·rename_i hc;rw [Bool.and_eq_true] at hc;cases h;rw [Nat.eq_of_beq_eq_true hc.1,AV.D2 hc.2];exact lL
 ·exact Vh _ _ _ h
theorem bl : Go.Gar.Fn Tryz.prog 10 [] (.b true) :=
 R0.toFn ((fA (kp:=keeps) A6 mixed fG am 1000 (.p 10 [] false) (.normal,[[some (.d (.b true))]],[]) (by kernel_rfl) _ _ rfl).1 rfl)
end Nd
end Go.Proofs.YtkljbfejbakooaaGreatDoor
