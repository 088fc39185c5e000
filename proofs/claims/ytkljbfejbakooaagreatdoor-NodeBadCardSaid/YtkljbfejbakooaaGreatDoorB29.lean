/- Part 29 of a proof, put together by a program. Conditions: none beyond those that a theorem states. -/
import Derived.Test.YtkljbfejbakooaaGreatDoorB25
import Derived.Test.YtkljbfejbakooaaGreatDoorB28
set_option linter.unusedSimpArgs false
set_option linter.unusedVariables false
set_option linter.unnecessarySimpa false
set_option maxHeartbeats 40000000
namespace Go.Proofs.YtkljbfejbakooaaGreatDoor
namespace Wi
open Go.Gar
set_option maxRecDepth 4000
theorem Ri (b : List UInt8) : (Ci b).1.list.length ≤ 255:=by
 rw [← QP];unfold EN;split
 ·split
  ·exact Nat.zero_le _
  ·split
   ·exact Lq _ _ (Nat.zero_le _)
   ·exact Nat.zero_le _
 ·exact Nat.zero_le _
theorem SB (b : List UInt8) : (Ar b).1.list.length ≤ 255:=by
 unfold Ar;split
 ·exact Ri _
 ·exact Nat.zero_le _
end Wi
end Go.Proofs.YtkljbfejbakooaaGreatDoor
