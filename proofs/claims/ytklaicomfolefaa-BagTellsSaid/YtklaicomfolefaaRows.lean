/-
  No cell of these rows narrows 'for every input' (looked for: loops, veiled, ifaces, maps, wideKeys, modest, calm, conditions, laid).
  DERIVED. THE GIVEN ROWS OF THIS SEAT. 5 by the template 'for every input the law returns true; each argument reads behind the call as it read before'; 0 by the template 'total and deterministic' (their statements: YtklaicomfolefaaTotals.lean).
  GIVEN WITH THE SEED: the statements are not yours to turn. If you find one false, say at which input.
  Laid BY PROGRAM, IN A SANDBOX (cutbox-rows.mjs): the forced cells as the released guide's own fill.sh prints them over the translation 0f420ae965bfb2f2… (all of the seat's roots in one cut). By AI agents, Wed Nov 11 2026. No macro, syntax, notation, axiom, sorry.
-/
import Derived.Test.YtklaicomfolefaaChecked
import GoSem.Claim
import GoSem.ClaimJoined
import GoSem.ClaimMapViews
import Derived.JoinedTies
import Derived.KernelRfl
namespace Go.Proofs.Ytklaicomfolefaa
/- THE CELL 'sum', in the pinned program and in every row, IS THE sha256 OF THE DUMP (.gsa) THAT YtklaicomfolefaaProg.lean LOADS. Nothing in Lean hashes anything: it is a label: what it is worth is what the hold of that sum in a sandbox is worth. -/
noncomputable def Try.pinned : Pinned := { name := "ytklaicomfolefaa", sum := "0f420ae965bfb2f29fdbbaee7f3779afeab5e8f2ab58a9710f34673adc922c21", checked := Try.checked }
namespace Rows
def none {H : Type} : Left H := { results := [], args := [] }

/-- 'garlandlaw08.BagTells': WHATEVER THE INPUT: true; the input reads as it did. -/
def bagTellsSpec : ChangeSpec := { name := "bagTells", fn := fun _ => fun
  | [d1, d2, d3, d4, d5, d6, d7] => { results := [.lit (.bool true)], args := [d1, d2, d3, d4, d5, d6, d7] }
  | _ => none }
def bagTellsRow : OpenClaim := { program := "ytklaicomfolefaa", sum := "0f420ae965bfb2f29fdbbaee7f3779afeab5e8f2ab58a9710f34673adc922c21", func := "garland/garlandlaw08.BagTells", spec := "bagTells", unfollowed := true, recurses := true, apart := false }
def BagTellsSaid : Prop := bagTellsRow.holds Try.pinned (OpenSpec.ofChange bagTellsSpec)

/-- ITS FALSE NEIGHBOUR: 'it returns false'. Refute it at one input. -/
def bagTellsWrong : ChangeSpec := { name := "bagTells", fn := fun _ => fun
  | [d1, d2, d3, d4, d5, d6, d7] => { results := [.lit (.bool false)], args := [d1, d2, d3, d4, d5, d6, d7] }
  | _ => none }
def BagTellsWrongFalsely : Prop := bagTellsRow.holds Try.pinned (OpenSpec.ofChange bagTellsWrong)

/-- 'garlandlaw08.BagCounts': WHATEVER THE INPUT: true; the input reads as it did. -/
def bagCountsSpec : ChangeSpec := { name := "bagCounts", fn := fun _ => fun
  | [d] => { results := [.lit (.bool true)], args := [d] }
  | _ => none }
def bagCountsRow : OpenClaim := { program := "ytklaicomfolefaa", sum := "0f420ae965bfb2f29fdbbaee7f3779afeab5e8f2ab58a9710f34673adc922c21", func := "garland/garlandlaw08.BagCounts", spec := "bagCounts", unfollowed := true, recurses := true, apart := false }
def BagCountsSaid : Prop := bagCountsRow.holds Try.pinned (OpenSpec.ofChange bagCountsSpec)

/-- ITS FALSE NEIGHBOUR: 'it returns false'. Refute it at one input. -/
def bagCountsWrong : ChangeSpec := { name := "bagCounts", fn := fun _ => fun
  | [d] => { results := [.lit (.bool false)], args := [d] }
  | _ => none }
def BagCountsWrongFalsely : Prop := bagCountsRow.holds Try.pinned (OpenSpec.ofChange bagCountsWrong)

/-- 'garlandlaw08.BagFirst': WHATEVER THE INPUT: true; the input reads as it did. -/
def bagFirstSpec : ChangeSpec := { name := "bagFirst", fn := fun _ => fun
  | [d1, d2] => { results := [.lit (.bool true)], args := [d1, d2] }
  | _ => none }
def bagFirstRow : OpenClaim := { program := "ytklaicomfolefaa", sum := "0f420ae965bfb2f29fdbbaee7f3779afeab5e8f2ab58a9710f34673adc922c21", func := "garland/garlandlaw08.BagFirst", spec := "bagFirst", unfollowed := true, recurses := true, apart := false }
def BagFirstSaid : Prop := bagFirstRow.holds Try.pinned (OpenSpec.ofChange bagFirstSpec)

/-- ITS FALSE NEIGHBOUR: 'it returns false'. Refute it at one input. -/
def bagFirstWrong : ChangeSpec := { name := "bagFirst", fn := fun _ => fun
  | [d1, d2] => { results := [.lit (.bool false)], args := [d1, d2] }
  | _ => none }
def BagFirstWrongFalsely : Prop := bagFirstRow.holds Try.pinned (OpenSpec.ofChange bagFirstWrong)

/-- 'garlandlaw08.BagOwn': WHATEVER THE INPUT: true; the input reads as it did. -/
def bagOwnSpec : ChangeSpec := { name := "bagOwn", fn := fun _ => fun
  | [d1, d2, d3, d4] => { results := [.lit (.bool true)], args := [d1, d2, d3, d4] }
  | _ => none }
def bagOwnRow : OpenClaim := { program := "ytklaicomfolefaa", sum := "0f420ae965bfb2f29fdbbaee7f3779afeab5e8f2ab58a9710f34673adc922c21", func := "garland/garlandlaw08.BagOwn", spec := "bagOwn", unfollowed := true, recurses := true, apart := false }
def BagOwnSaid : Prop := bagOwnRow.holds Try.pinned (OpenSpec.ofChange bagOwnSpec)

/-- ITS FALSE NEIGHBOUR: 'it returns false'. Refute it at one input. -/
def bagOwnWrong : ChangeSpec := { name := "bagOwn", fn := fun _ => fun
  | [d1, d2, d3, d4] => { results := [.lit (.bool false)], args := [d1, d2, d3, d4] }
  | _ => none }
def BagOwnWrongFalsely : Prop := bagOwnRow.holds Try.pinned (OpenSpec.ofChange bagOwnWrong)

/-- 'garlandlaw08.BagFor': WHATEVER THE INPUT: true; the input reads as it did. -/
def bagForSpec : ChangeSpec := { name := "bagFor", fn := fun _ => fun
  | [d1, d2, d3] => { results := [.lit (.bool true)], args := [d1, d2, d3] }
  | _ => none }
def bagForRow : OpenClaim := { program := "ytklaicomfolefaa", sum := "0f420ae965bfb2f29fdbbaee7f3779afeab5e8f2ab58a9710f34673adc922c21", func := "garland/garlandlaw08.BagFor", spec := "bagFor", unfollowed := true, recurses := true, apart := false }
def BagForSaid : Prop := bagForRow.holds Try.pinned (OpenSpec.ofChange bagForSpec)

/-- ITS FALSE NEIGHBOUR: 'it returns false'. Refute it at one input. -/
def bagForWrong : ChangeSpec := { name := "bagFor", fn := fun _ => fun
  | [d1, d2, d3] => { results := [.lit (.bool false)], args := [d1, d2, d3] }
  | _ => none }
def BagForWrongFalsely : Prop := bagForRow.holds Try.pinned (OpenSpec.ofChange bagForWrong)

/- THE SECOND FORM. 'bulk': how many values and letters a reading holds, each counted each time it is reached (what is shared counts as often as it is met; a slice's spare places count too). A statement '..UptoSaid' is the law's where the arguments, and the package variables that the reading takes, are together of bulk at most 1048576: NARROWER than '..Said'. Prove '..Said' where nothing that the law and all that it calls make is longer than what came in: it says more and counts as full. Else prove '..UptoSaid'. A law counts once. -/
mutual
def uptoBulk {H : Type} : DataW H → Nat
  | .lit (.string bytes) => bytes.length + 1
  | .lit _ => 1
  | .nil => 1
  | .ptr d => uptoBulk d + 1
  | .slice elems spare => uptoBulkAll elems + uptoBulkAll spare + 1
  | .agg parts => uptoBulkAll parts + 1
  | .iface _ d => uptoBulk d + 1
  | .map entries => uptoBulkEntries entries + 1
  | .held _ => 1
def uptoBulkAll {H : Type} : List (DataW H) → Nat
  | [] => 0
  | d :: r => uptoBulk d + uptoBulkAll r
def uptoBulkEntries {H : Type} : List (Lit × DataW H) → Nat
  | [] => 0
  | x :: r => uptoBulkEntry x + uptoBulkEntries r
def uptoBulkEntry {H : Type} : Lit × DataW H → Nat
  | (.string bytes, d) => bytes.length + uptoBulk d + 1
  | (_, d) => uptoBulk d + 1
 end
def uptoSmall : (H : Type) → List (DataW H) → Bool := fun _ ds => decide (uptoBulkAll ds ≤ 1048576)
def OpenSpec.upto (s : _root_.Go.ChangeSpec) : _root_.Go.OpenSpec := { _root_.Go.OpenSpec.ofChange s with cond := some uptoSmall }

/-- 'garlandlaw08.BagTells', WHERE WHAT IT READS IS OF BULK AT MOST 1048576: true; the input reads as it did. -/
def bagTellsUptoRow : OpenClaim := { program := "ytklaicomfolefaa", sum := "0f420ae965bfb2f29fdbbaee7f3779afeab5e8f2ab58a9710f34673adc922c21", func := "garland/garlandlaw08.BagTells", spec := "bagTells", unfollowed := true, recurses := true, apart := false, narrowed := true }
def BagTellsUptoSaid : Prop := bagTellsUptoRow.holds Try.pinned (OpenSpec.upto bagTellsSpec)

/-- 'garlandlaw08.BagCounts', WHERE WHAT IT READS IS OF BULK AT MOST 1048576: true; the input reads as it did. -/
def bagCountsUptoRow : OpenClaim := { program := "ytklaicomfolefaa", sum := "0f420ae965bfb2f29fdbbaee7f3779afeab5e8f2ab58a9710f34673adc922c21", func := "garland/garlandlaw08.BagCounts", spec := "bagCounts", unfollowed := true, recurses := true, apart := false, narrowed := true }
def BagCountsUptoSaid : Prop := bagCountsUptoRow.holds Try.pinned (OpenSpec.upto bagCountsSpec)

/-- 'garlandlaw08.BagFirst', WHERE WHAT IT READS IS OF BULK AT MOST 1048576: true; the input reads as it did. -/
def bagFirstUptoRow : OpenClaim := { program := "ytklaicomfolefaa", sum := "0f420ae965bfb2f29fdbbaee7f3779afeab5e8f2ab58a9710f34673adc922c21", func := "garland/garlandlaw08.BagFirst", spec := "bagFirst", unfollowed := true, recurses := true, apart := false, narrowed := true }
def BagFirstUptoSaid : Prop := bagFirstUptoRow.holds Try.pinned (OpenSpec.upto bagFirstSpec)

/-- 'garlandlaw08.BagOwn', WHERE WHAT IT READS IS OF BULK AT MOST 1048576: true; the input reads as it did. -/
def bagOwnUptoRow : OpenClaim := { program := "ytklaicomfolefaa", sum := "0f420ae965bfb2f29fdbbaee7f3779afeab5e8f2ab58a9710f34673adc922c21", func := "garland/garlandlaw08.BagOwn", spec := "bagOwn", unfollowed := true, recurses := true, apart := false, narrowed := true }
def BagOwnUptoSaid : Prop := bagOwnUptoRow.holds Try.pinned (OpenSpec.upto bagOwnSpec)

/-- 'garlandlaw08.BagFor', WHERE WHAT IT READS IS OF BULK AT MOST 1048576: true; the input reads as it did. -/
def bagForUptoRow : OpenClaim := { program := "ytklaicomfolefaa", sum := "0f420ae965bfb2f29fdbbaee7f3779afeab5e8f2ab58a9710f34673adc922c21", func := "garland/garlandlaw08.BagFor", spec := "bagFor", unfollowed := true, recurses := true, apart := false, narrowed := true }
def BagForUptoSaid : Prop := bagForUptoRow.holds Try.pinned (OpenSpec.upto bagForSpec)

end Rows
end Go.Proofs.Ytklaicomfolefaa
