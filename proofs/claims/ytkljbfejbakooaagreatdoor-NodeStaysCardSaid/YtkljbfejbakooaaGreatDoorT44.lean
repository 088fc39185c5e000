/- Part 44 of a proof. Conditions: those that its theorems state. -/
import Derived.Test.YtkljbfejbakooaaGreatDoorT43
set_option linter.unusedSimpArgs false
set_option linter.unusedVariables false
set_option maxHeartbeats 40000000
set_option maxRecDepth 4000
namespace Go.Proofs.YtkljbfejbakooaaGreatDoor
namespace Nd
open Go.Gar
set_option maxRecDepth 100000
def qq(g:Nat)(xs:xD):xL:=
 match Nat.beq g 11&&AV.Iw xs [x0]with
 |true=>some x1
 |false=>tR g xs
theorem mA:∀g xs y,qq g xs=some y->W6 Tryz.prog g xs y:=by
 intro g xs y h;unfold qq at h;split at h
 .rename_i hc;rw[xI]at hc;cases h;rw[xR hc.1,AV.FU hc.2];exact wT
 .exact cb _ _ _ h
theorem YR:xB 10 [] (.b true):=
 W6.toFn ((qf (kp:=keeps) AF mixed qm mA 1000 (.p 10 [] false) (.normal,[[some (.wu true)]],[]) (by kernel_rfl) _ _ rfl).1 rfl)
end Nd
end Go.Proofs.YtkljbfejbakooaaGreatDoor
