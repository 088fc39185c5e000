/- Part 38 of the texts of this proof, put together by a program and made short.
Conditions: none; what each theorem asks stands in its own hypotheses. -/
import Derived.Test.YtnahkfkljohjaaaGreatDoorH34
import Derived.Test.YtnahkfkljohjaaaGreatDoorH37
import Derived.Ground.SlgfProg
import Derived.Lib.SliceRun
import Derived.Shelf.SlicesE.DeleteFunc
import Derived.Sort.Walk0
import Derived.KernelRfl
import Derived.RangeFuncIn
import Derived.OpenShut
import Derived.ProofKit
import Derived.CallsIn
import Derived.RangeFuncLeaves
import Derived.OrdersIn
import Derived.TacticsIn
import Derived.ChangeKeysEq
import Derived.Laws.AppendOwn
import Derived.Laws.OwnMore
import Derived.Laws.MakeOwn
import Derived.Laws.Rows
import Derived.Laws.Cells
import Derived.Laws.Tables
import Derived.Laws.CopyRow
import Derived.Laws.Strings
import Derived.Laws.IdiomStrings
import Derived.Laws.BytesArg
import Derived.Sort.Grow
import Derived.Laws.Cover3
import Derived.RecoverIn
import Derived.Test.YtnahkfkljohjaaaGreatDoorProg
set_option linter.unusedSimpArgs false
set_option linter.unusedVariables false
set_option linter.unnecessarySimpa false
set_option maxHeartbeats 40000000
namespace Go.Proofs.YtnahkfkljohjaaaGreatDoor
namespace Nd
open Go.Gar
open Wi (A8 B0 Ak AX B8 mC)
set_option maxRecDepth 4000
theorem J6 {n : Node} (h : AG n = true) : 0 ≤ n.next ∧ n.next < 16:=by
 unfold AG at h
 simp only [Bool.and_eq_true,decide_eq_true_eq] at h
 exact h.2.2.1
theorem TC (n : Node) (h : Cs n) (w what place : Int) (x : Item) (hs : x.key.length ≤ 9223372036854775807) (ha : (CE n.view what place x).asks.length ≤ 100000) (hk : (CE n.view what place x).job.item.key.length ≤ 9223372036854775807) : Go.Gar.Fn Tryz.prog 12 [n.d,.i .u8 w,.i .u8 what,.i .i64 place,x.d] (.tup [(B6 n w what place x).1.d,A9 (B6 n w what place x).2]):=by
 unfold B6
 cases hr : AG n with
 | false =>
  rw [Bool.and_false,if_neg (by decide)]
  by_cases h5 : w = 5
  ·subst h5;exact Ql n h what place x hr
  by_cases h6 : w = 6
  ·subst h6;exact QK n h what place x hr
  by_cases h7 : w = 7
  ·subst h7;exact Ps n h what place x hr
  exact PF n h w what place x h5 h6 h7
 | true =>
  obtain ⟨a,b⟩:=J6 hr
  by_cases h5 : w = 5
  ·subst h5;rw [if_pos (by decide)];exact Q0 n h what place x hr a b hs ha hk
  by_cases h6 : w = 6
  ·subst h6;rw [if_pos (by decide)];exact Pq n h what place x hr a b hs ha hk
  by_cases h7 : w = 7
  ·subst h7;rw [if_pos (by decide)];exact Qv n h what place x hr a b hs ha hk
  rw [if_neg (by simp;omega)]
  exact PF n h w what place x h5 h6 h7
end Nd
end Go.Proofs.YtnahkfkljohjaaaGreatDoor
