/-
  No cell of these rows narrows 'for every input' (looked for: loops, veiled, ifaces, maps, wideKeys, modest, calm, conditions, laid).
  DERIVED. THE GIVEN ROWS OF THIS SEAT. 5 by the template 'for every input the law returns true; each argument reads behind the call as it read before'; 0 by the template 'total and deterministic' (their statements: YtagnjflbhjmefaaGreatTotals.lean).
  GIVEN WITH THE SEED: the statements are not yours to turn. If you find one false, say at which input.
  Laid BY PROGRAM, IN A SANDBOX (cutbox-rows.mjs): the forced cells as the released guide's own fill.sh prints them over the translation d61536e469fc661b… (all of the seat's roots in one cut). By AI agents, Wed Nov 11 2026. No macro, syntax, notation, axiom, sorry.
-/
import Derived.Test.YtagnjflbhjmefaaGreatChecked
import GoSem.Claim
import GoSem.ClaimJoined
import GoSem.ClaimMapViews
import Derived.JoinedTies
import Derived.KernelRfl
namespace Go.Proofs.YtagnjflbhjmefaaGreat
/- THE CELL 'sum', in the pinned program and in every row, IS THE sha256 OF THE DUMP (.gsa) THAT YtagnjflbhjmefaaGreatProg.lean LOADS. Nothing in Lean hashes anything: it is a label: what it is worth is what the hold of that sum in a sandbox is worth. -/
noncomputable def Tryz.pinned : Pinned := { name := "ytagnjflbhjmefaagreat", sum := "d61536e469fc661b439b64efad99a779d0416e87dbac3ed33624114648b3d4b3", checked := Tryz.checked }
namespace Rows
def none {H : Type} : Left H := { results := [], args := [] }

/-- 'garlandlaw27.RingedTells': WHATEVER THE INPUT: true; the input reads as it did. -/
def ringedTellsSpec : ChangeSpec := { name := "ringedTells", fn := fun _ => fun
  | [d1, d2, d3] => { results := [.lit (.bool true)], args := [d1, d2, d3] }
  | _ => none }
def ringedTellsRow : OpenClaim := { program := "ytagnjflbhjmefaagreat", sum := "d61536e469fc661b439b64efad99a779d0416e87dbac3ed33624114648b3d4b3", func := "garland/garlandlaw27.RingedTells", spec := "ringedTells", unfollowed := true, recurses := true, apart := false }
def RingedTellsSaid : Prop := ringedTellsRow.holds Tryz.pinned (OpenSpec.ofChange ringedTellsSpec)

/-- ITS FALSE NEIGHBOUR: 'it returns false'. Refute it at one input. -/
def ringedTellsWrong : ChangeSpec := { name := "ringedTells", fn := fun _ => fun
  | [d1, d2, d3] => { results := [.lit (.bool false)], args := [d1, d2, d3] }
  | _ => none }
def RingedTellsWrongFalsely : Prop := ringedTellsRow.holds Tryz.pinned (OpenSpec.ofChange ringedTellsWrong)

/-- 'garlandlaw27.RingedClean': WHATEVER THE INPUT: true; the input reads as it did. -/
def ringedCleanSpec : ChangeSpec := { name := "ringedClean", fn := fun _ => fun
  | [d1, d2] => { results := [.lit (.bool true)], args := [d1, d2] }
  | _ => none }
def ringedCleanRow : OpenClaim := { program := "ytagnjflbhjmefaagreat", sum := "d61536e469fc661b439b64efad99a779d0416e87dbac3ed33624114648b3d4b3", func := "garland/garlandlaw27.RingedClean", spec := "ringedClean", unfollowed := true, recurses := true, apart := false }
def RingedCleanSaid : Prop := ringedCleanRow.holds Tryz.pinned (OpenSpec.ofChange ringedCleanSpec)

/-- ITS FALSE NEIGHBOUR: 'it returns false'. Refute it at one input. -/
def ringedCleanWrong : ChangeSpec := { name := "ringedClean", fn := fun _ => fun
  | [d1, d2] => { results := [.lit (.bool false)], args := [d1, d2] }
  | _ => none }
def RingedCleanWrongFalsely : Prop := ringedCleanRow.holds Tryz.pinned (OpenSpec.ofChange ringedCleanWrong)

/-- 'garlandlaw27.RingedRing': WHATEVER THE INPUT: true; the input reads as it did. -/
def ringedRingSpec : ChangeSpec := { name := "ringedRing", fn := fun _ => fun
  | [d1, d2] => { results := [.lit (.bool true)], args := [d1, d2] }
  | _ => none }
def ringedRingRow : OpenClaim := { program := "ytagnjflbhjmefaagreat", sum := "d61536e469fc661b439b64efad99a779d0416e87dbac3ed33624114648b3d4b3", func := "garland/garlandlaw27.RingedRing", spec := "ringedRing", unfollowed := true, recurses := true, apart := false }
def RingedRingSaid : Prop := ringedRingRow.holds Tryz.pinned (OpenSpec.ofChange ringedRingSpec)

/-- ITS FALSE NEIGHBOUR: 'it returns false'. Refute it at one input. -/
def ringedRingWrong : ChangeSpec := { name := "ringedRing", fn := fun _ => fun
  | [d1, d2] => { results := [.lit (.bool false)], args := [d1, d2] }
  | _ => none }
def RingedRingWrongFalsely : Prop := ringedRingRow.holds Tryz.pinned (OpenSpec.ofChange ringedRingWrong)

/-- 'garlandlaw27.RingedNext': WHATEVER THE INPUT: true; the input reads as it did. -/
def ringedNextSpec : ChangeSpec := { name := "ringedNext", fn := fun _ => fun
  | [d] => { results := [.lit (.bool true)], args := [d] }
  | _ => none }
def ringedNextRow : OpenClaim := { program := "ytagnjflbhjmefaagreat", sum := "d61536e469fc661b439b64efad99a779d0416e87dbac3ed33624114648b3d4b3", func := "garland/garlandlaw27.RingedNext", spec := "ringedNext", unfollowed := true, recurses := true, apart := false }
def RingedNextSaid : Prop := ringedNextRow.holds Tryz.pinned (OpenSpec.ofChange ringedNextSpec)

/-- ITS FALSE NEIGHBOUR: 'it returns false'. Refute it at one input. -/
def ringedNextWrong : ChangeSpec := { name := "ringedNext", fn := fun _ => fun
  | [d] => { results := [.lit (.bool false)], args := [d] }
  | _ => none }
def RingedNextWrongFalsely : Prop := ringedNextRow.holds Tryz.pinned (OpenSpec.ofChange ringedNextWrong)

/-- 'garlandlaw27.RingedWalks': WHATEVER THE INPUT: true; the input reads as it did. -/
def ringedWalksSpec : ChangeSpec := { name := "ringedWalks", fn := fun _ => fun
  | [d1, d2, d3] => { results := [.lit (.bool true)], args := [d1, d2, d3] }
  | _ => none }
def ringedWalksRow : OpenClaim := { program := "ytagnjflbhjmefaagreat", sum := "d61536e469fc661b439b64efad99a779d0416e87dbac3ed33624114648b3d4b3", func := "garland/garlandlaw27.RingedWalks", spec := "ringedWalks", unfollowed := true, recurses := true, apart := false }
def RingedWalksSaid : Prop := ringedWalksRow.holds Tryz.pinned (OpenSpec.ofChange ringedWalksSpec)

/-- ITS FALSE NEIGHBOUR: 'it returns false'. Refute it at one input. -/
def ringedWalksWrong : ChangeSpec := { name := "ringedWalks", fn := fun _ => fun
  | [d1, d2, d3] => { results := [.lit (.bool false)], args := [d1, d2, d3] }
  | _ => none }
def RingedWalksWrongFalsely : Prop := ringedWalksRow.holds Tryz.pinned (OpenSpec.ofChange ringedWalksWrong)

/- THE SECOND FORM. 'bulk': how many values and letters a reading holds, each counted each time it is reached (what is shared counts as often as it is met; a slice's spare places count too). A statement '..UptoSaid' is the law's where the arguments, and the package variables that the reading takes, are together of bulk at most 1048576: NARROWER than '..Said'. Prove '..Said' where nothing that the law and all that it calls make is longer than what came in: it says more and counts as full. Else prove '..UptoSaid'. A law counts once. -/
mutual
def uptoBulk {H : Type} : DataW H → Nat
  | .lit (.string bytes) => bytes.length + 1
  | .lit _ => 1
  | .nil => 1
  | .ptr d => uptoBulk d + 1
  | .slice elems spare => uptoBulkAll elems + uptoBulkAll spare + 1
  | .agg parts => uptoBulkAll parts + 1
  | .iface _ d => uptoBulk d + 1
  | .map entries => uptoBulkEntries entries + 1
  | .held _ => 1
def uptoBulkAll {H : Type} : List (DataW H) → Nat
  | [] => 0
  | d :: r => uptoBulk d + uptoBulkAll r
def uptoBulkEntries {H : Type} : List (Lit × DataW H) → Nat
  | [] => 0
  | x :: r => uptoBulkEntry x + uptoBulkEntries r
def uptoBulkEntry {H : Type} : Lit × DataW H → Nat
  | (.string bytes, d) => bytes.length + uptoBulk d + 1
  | (_, d) => uptoBulk d + 1
 end
def uptoSmall : (H : Type) → List (DataW H) → Bool := fun _ ds => decide (uptoBulkAll ds ≤ 1048576)
def OpenSpec.upto (s : _root_.Go.ChangeSpec) : _root_.Go.OpenSpec := { _root_.Go.OpenSpec.ofChange s with cond := some uptoSmall }

/-- 'garlandlaw27.RingedTells', WHERE WHAT IT READS IS OF BULK AT MOST 1048576: true; the input reads as it did. -/
def ringedTellsUptoRow : OpenClaim := { program := "ytagnjflbhjmefaagreat", sum := "d61536e469fc661b439b64efad99a779d0416e87dbac3ed33624114648b3d4b3", func := "garland/garlandlaw27.RingedTells", spec := "ringedTells", unfollowed := true, recurses := true, apart := false, narrowed := true }
def RingedTellsUptoSaid : Prop := ringedTellsUptoRow.holds Tryz.pinned (OpenSpec.upto ringedTellsSpec)

/-- 'garlandlaw27.RingedClean', WHERE WHAT IT READS IS OF BULK AT MOST 1048576: true; the input reads as it did. -/
def ringedCleanUptoRow : OpenClaim := { program := "ytagnjflbhjmefaagreat", sum := "d61536e469fc661b439b64efad99a779d0416e87dbac3ed33624114648b3d4b3", func := "garland/garlandlaw27.RingedClean", spec := "ringedClean", unfollowed := true, recurses := true, apart := false, narrowed := true }
def RingedCleanUptoSaid : Prop := ringedCleanUptoRow.holds Tryz.pinned (OpenSpec.upto ringedCleanSpec)

/-- 'garlandlaw27.RingedRing', WHERE WHAT IT READS IS OF BULK AT MOST 1048576: true; the input reads as it did. -/
def ringedRingUptoRow : OpenClaim := { program := "ytagnjflbhjmefaagreat", sum := "d61536e469fc661b439b64efad99a779d0416e87dbac3ed33624114648b3d4b3", func := "garland/garlandlaw27.RingedRing", spec := "ringedRing", unfollowed := true, recurses := true, apart := false, narrowed := true }
def RingedRingUptoSaid : Prop := ringedRingUptoRow.holds Tryz.pinned (OpenSpec.upto ringedRingSpec)

/-- 'garlandlaw27.RingedNext', WHERE WHAT IT READS IS OF BULK AT MOST 1048576: true; the input reads as it did. -/
def ringedNextUptoRow : OpenClaim := { program := "ytagnjflbhjmefaagreat", sum := "d61536e469fc661b439b64efad99a779d0416e87dbac3ed33624114648b3d4b3", func := "garland/garlandlaw27.RingedNext", spec := "ringedNext", unfollowed := true, recurses := true, apart := false, narrowed := true }
def RingedNextUptoSaid : Prop := ringedNextUptoRow.holds Tryz.pinned (OpenSpec.upto ringedNextSpec)

/-- 'garlandlaw27.RingedWalks', WHERE WHAT IT READS IS OF BULK AT MOST 1048576: true; the input reads as it did. -/
def ringedWalksUptoRow : OpenClaim := { program := "ytagnjflbhjmefaagreat", sum := "d61536e469fc661b439b64efad99a779d0416e87dbac3ed33624114648b3d4b3", func := "garland/garlandlaw27.RingedWalks", spec := "ringedWalks", unfollowed := true, recurses := true, apart := false, narrowed := true }
def RingedWalksUptoSaid : Prop := ringedWalksUptoRow.holds Tryz.pinned (OpenSpec.upto ringedWalksSpec)

end Rows
end Go.Proofs.YtagnjflbhjmefaaGreat
