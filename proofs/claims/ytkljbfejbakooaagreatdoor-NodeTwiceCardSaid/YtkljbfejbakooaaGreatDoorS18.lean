/- Part 18 of a proof. Conditions: those that its theorems state. -/
import Derived.Test.YtkljbfejbakooaaGreatDoorS17
set_option linter.unusedSimpArgs false
set_option linter.unusedVariables false
set_option maxHeartbeats 40000000
set_option maxRecDepth 4000
namespace Go.Proofs.YtkljbfejbakooaaGreatDoor
namespace Wi
open Go.Gar
theorem Vs(b:List UInt8):(DY b).1.list.length<=255:=by
 rw[<-UX];unfold FQ;split
 .split
  .exact qP _
  .split
   .exact Oq _ _ (qP _)
   .exact qP _
 .exact qP _
theorem WH(b:List UInt8):(Ad b).1.list.length<=255:=by
 unfold Ad;split
 .exact Vs _
 .exact qP _
end Wi
end Go.Proofs.YtkljbfejbakooaaGreatDoor
