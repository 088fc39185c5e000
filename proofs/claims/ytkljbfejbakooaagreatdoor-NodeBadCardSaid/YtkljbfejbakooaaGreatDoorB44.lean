/- Part 44 of a proof, put together by a program. Conditions: none beyond those that a theorem states. -/
import Derived.Test.YtkljbfejbakooaaGreatDoorB25
import Derived.Test.YtkljbfejbakooaaGreatDoorB32
set_option linter.unusedSimpArgs false
set_option linter.unusedVariables false
set_option linter.unnecessarySimpa false
set_option maxHeartbeats 40000000
namespace Go.Proofs.YtkljbfejbakooaaGreatDoor
namespace Nd
open Go.Gar
open Wi (A8 B2 Ai AA BN mC Bs Ar)
set_option maxRecDepth 4000
abbrev R5 (l : List MR) : D:=.sl 3 (l.map MR.cells)
end Nd
end Go.Proofs.YtkljbfejbakooaaGreatDoor
