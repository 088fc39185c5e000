/- Part 42 of the texts of this proof, put together by a program and made short.
Conditions: none; what each theorem asks stands in its own hypotheses. -/
import Derived.Test.YtagnjflbhjmefaaGreatRb36
import Derived.Test.YtagnjflbhjmefaaGreatRb40
import Derived.KernelRfl
import Derived.RangeFuncIn
import Derived.Sort.Grow
import Derived.Laws.Cover3
import Derived.RecoverIn
import Derived.ProofKit
import Derived.OpenShut
import Derived.CallsIn
import Derived.RangeFuncLeaves
import Derived.OrdersIn
import Derived.TacticsIn
import Derived.ChangeKeysEq
import Derived.Laws.AppendOwn
import Derived.Laws.OwnMore
import Derived.Laws.MakeOwn
import Derived.Laws.Rows
import Derived.Laws.Cells
import Derived.Laws.Tables
import Derived.Laws.CopyRow
import Derived.Laws.Strings
import Derived.Laws.IdiomStrings
import Derived.Laws.BytesArg
import Derived.Test.YtagnjflbhjmefaaGreatProg
set_option linter.unusedSimpArgs false
set_option linter.unusedVariables false
set_option linter.unnecessarySimpa false
set_option maxHeartbeats 40000000
namespace Go.Proofs.YtagnjflbhjmefaaGreat
namespace Wi
open Go.Gar
set_option maxRecDepth 4000
theorem Pf (b : List UInt8) : (CK b).1.list.length ≤ 255:=by
 rw [← OA]
 unfold Df
 split
 ·split
  ·exact Nat.zero_le _
  ·split
   ·exact KH _ _ (Nat.zero_le _)
   ·exact Nat.zero_le _
 ·exact Nat.zero_le _
theorem PI (b : List UInt8) : (BC b).1.list.length ≤ 255:=by
 unfold BC
 split
 ·exact Pf _
 ·exact Nat.zero_le _
end Wi
end Go.Proofs.YtagnjflbhjmefaaGreat
