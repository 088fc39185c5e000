/- Part 30 of a proof. Conditions: those that its theorems state. -/
import Derived.Test.YtkljbfejbakooaaGreatDoorS29
set_option linter.unusedSimpArgs false
set_option linter.unusedVariables false
set_option maxHeartbeats 40000000
set_option maxRecDepth 4000
namespace Go.Proofs.YtkljbfejbakooaaGreatDoor
namespace Nd
open Go.Gar
set_option maxRecDepth 100000
def jz(g:Nat)(xs:List AV):Option AV:=
 match Nat.beq g 11&&AV.HB xs [x0]with
 |true=>some x1
 |false=>mN g xs
theorem e9:∀g xs y,jz g xs=some y->Si Tryz.prog g xs y:=by
 intro g xs y h;unfold jz at h;split at h
 .rename_i hc;rw[qH]at hc;cases h;rw[qL hc.1,AV.E5 hc.2];exact pO
 .exact XZ _ _ _ h
theorem fR:qB 10 [] (.b true):=
 Si.toFn ((jp (kp:=keeps) A4 mixed jw e9 1000 (.p 10 [] false) (.normal,[[some (.pq true)]],[]) (by kernel_rfl) _ _ rfl).1 rfl)
end Nd
end Go.Proofs.YtkljbfejbakooaaGreatDoor
