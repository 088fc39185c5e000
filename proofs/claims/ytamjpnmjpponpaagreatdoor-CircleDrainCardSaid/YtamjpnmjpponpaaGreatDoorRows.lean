/-
  NARROWER THAN 'FOR EVERY INPUT', by the rows' own cells (each row's printed sentence says how): CircleRight: laid · CircleDrain: laid.
  DERIVED. THE GIVEN ROWS OF THIS SEAT. 2 by the template 'for every input the law returns true; each argument reads behind the call as it read before'; 0 by the template 'total and deterministic' (their statements: YtamjpnmjpponpaaGreatDoorTotals.lean).
  GIVEN WITH THE SEED: the statements are not yours to turn. If you find one false, say at which input.
  Laid BY PROGRAM, IN A SANDBOX (cutbox-rows.mjs): the forced cells as the released guide's own fill.sh prints them over the translation 98d87c615959dceb… (all of the seat's roots in one cut). By AI agents, Wed Nov 11 2026. No macro, syntax, notation, axiom, sorry.
-/
import Derived.Test.YtamjpnmjpponpaaGreatDoorChecked
import GoSem.Claim
import GoSem.ClaimJoined
import GoSem.ClaimMapViews
import Derived.JoinedTies
import Derived.KernelRfl
namespace Go.Proofs.YtamjpnmjpponpaaGreatDoor
/- THE CELL 'sum', in the pinned program and in every row, IS THE sha256 OF THE DUMP (.gsa) THAT YtamjpnmjpponpaaGreatDoorProg.lean LOADS. Nothing in Lean hashes anything: it is a label: what it is worth is what the hold of that sum in a sandbox is worth. -/
noncomputable def Tryz.pinned : Pinned := { name := "ytamjpnmjpponpaagreatdoor", sum := "98d87c615959dceb36856d4401b32763aef35aa7e1a9cd47165ccbb75d5a215a", checked := Tryz.checked }
namespace Rows
def none {H : Type} : Left H := { results := [], args := [] }

/- WHAT THE LISTED PACKAGE-LEVEL VARIABLES READ AS WHEN THE CALL BEGINS. Each datum BY PROGRAM (the guide's laid-datum.mjs) off the statement by which the dump's own 'gosem.cut.vars' lays the variable. In a bare row this is a premise. The card (YtamjpnmjpponpaaGreatDoorCards.lean) ties it to the program's text. -/
def laid_garland_arc_starts {H : Type} : DataW H := .agg [.lit (.int .i64 1), .lit (.int .i64 2), .lit (.int .i64 4), .lit (.int .i64 8), .lit (.int .i64 16), .lit (.int .i64 32), .lit (.int .i64 64), .lit (.int .i64 128), .lit (.int .i64 256), .lit (.int .i64 512), .lit (.int .i64 1024), .lit (.int .i64 2048), .lit (.int .i64 4096), .lit (.int .i64 8192), .lit (.int .i64 16384), .lit (.int .i64 32768)]
def laid_garland_wait_waits {H : Type} : DataW H := .agg [.lit (.int .i64 1), .lit (.int .i64 2), .lit (.int .i64 4)]
def laid_garland_stab_rounds {H : Type} : DataW H := .agg [.agg [.lit (.int .u8 0), .lit (.int .u8 0)], .agg [.lit (.int .u8 1), .lit (.int .u8 1)], .agg [.lit (.int .u8 1), .lit (.int .u8 2)], .agg [.lit (.int .u8 3), .lit (.int .u8 3)]]

/-- 'garlandlaw25.CircleRight': WHATEVER THE INPUT: true; the input reads as it did. -/
def circleRightSpec : ChangeSpec := { name := "circleRight", fn := fun _ => fun
  | [d1, d2] => { results := [.lit (.bool true)], args := [d1, d2] }
  | _ => none }
def circleRightRow : OpenClaim := { program := "ytamjpnmjpponpaagreatdoor", sum := "98d87c615959dceb36856d4401b32763aef35aa7e1a9cd47165ccbb75d5a215a", func := "garland/garlandlaw25.CircleRight", spec := "circleRight", inPlace := ["slices.overlaps[garland/api.Node]"], unfollowed := true, recurses := true, named := ["garland/arc.starts", "garland/wait.waits", "garland/stab.rounds"], apart := false, laid := [("garland/arc.starts", laid_garland_arc_starts), ("garland/wait.waits", laid_garland_wait_waits), ("garland/stab.rounds", laid_garland_stab_rounds)] }
def CircleRightSaid : Prop := circleRightRow.holds Tryz.pinned (OpenSpec.ofChange circleRightSpec)

/-- ITS FALSE NEIGHBOUR: 'it returns false'. Refute it at one input. -/
def circleRightWrong : ChangeSpec := { name := "circleRight", fn := fun _ => fun
  | [d1, d2] => { results := [.lit (.bool false)], args := [d1, d2] }
  | _ => none }
def CircleRightWrongFalsely : Prop := circleRightRow.holds Tryz.pinned (OpenSpec.ofChange circleRightWrong)

/-- 'garlandlaw25.CircleDrain': WHATEVER THE INPUT: true; the input reads as it did. -/
def circleDrainSpec : ChangeSpec := { name := "circleDrain", fn := fun _ => fun
  | [d1, d2, d3] => { results := [.lit (.bool true)], args := [d1, d2, d3] }
  | _ => none }
def circleDrainRow : OpenClaim := { program := "ytamjpnmjpponpaagreatdoor", sum := "98d87c615959dceb36856d4401b32763aef35aa7e1a9cd47165ccbb75d5a215a", func := "garland/garlandlaw25.CircleDrain", spec := "circleDrain", inPlace := ["slices.overlaps[garland/api.Node]"], unfollowed := true, recurses := true, named := ["garland/arc.starts", "garland/wait.waits", "garland/stab.rounds"], apart := false, laid := [("garland/arc.starts", laid_garland_arc_starts), ("garland/wait.waits", laid_garland_wait_waits), ("garland/stab.rounds", laid_garland_stab_rounds)] }
def CircleDrainSaid : Prop := circleDrainRow.holds Tryz.pinned (OpenSpec.ofChange circleDrainSpec)

/-- ITS FALSE NEIGHBOUR: 'it returns false'. Refute it at one input. -/
def circleDrainWrong : ChangeSpec := { name := "circleDrain", fn := fun _ => fun
  | [d1, d2, d3] => { results := [.lit (.bool false)], args := [d1, d2, d3] }
  | _ => none }
def CircleDrainWrongFalsely : Prop := circleDrainRow.holds Tryz.pinned (OpenSpec.ofChange circleDrainWrong)

/- THE SECOND FORM. 'bulk': how many values and letters a reading holds, each counted each time it is reached (what is shared counts as often as it is met; a slice's spare places count too). A statement '..UptoSaid' is the law's where the arguments, and the package variables that the reading takes, are together of bulk at most 1048576: NARROWER than '..Said'. Prove '..Said' where nothing that the law and all that it calls make is longer than what came in: it says more and counts as full. Else prove '..UptoSaid'. A law counts once. -/
mutual
def uptoBulk {H : Type} : DataW H → Nat
  | .lit (.string bytes) => bytes.length + 1
  | .lit _ => 1
  | .nil => 1
  | .ptr d => uptoBulk d + 1
  | .slice elems spare => uptoBulkAll elems + uptoBulkAll spare + 1
  | .agg parts => uptoBulkAll parts + 1
  | .iface _ d => uptoBulk d + 1
  | .map entries => uptoBulkEntries entries + 1
  | .held _ => 1
def uptoBulkAll {H : Type} : List (DataW H) → Nat
  | [] => 0
  | d :: r => uptoBulk d + uptoBulkAll r
def uptoBulkEntries {H : Type} : List (Lit × DataW H) → Nat
  | [] => 0
  | x :: r => uptoBulkEntry x + uptoBulkEntries r
def uptoBulkEntry {H : Type} : Lit × DataW H → Nat
  | (.string bytes, d) => bytes.length + uptoBulk d + 1
  | (_, d) => uptoBulk d + 1
 end
def uptoSmall : (H : Type) → List (DataW H) → Bool := fun _ ds => decide (uptoBulkAll ds ≤ 1048576)
def OpenSpec.upto (s : _root_.Go.ChangeSpec) : _root_.Go.OpenSpec := { _root_.Go.OpenSpec.ofChange s with cond := some uptoSmall }

/-- 'garlandlaw25.CircleRight', WHERE WHAT IT READS IS OF BULK AT MOST 1048576: true; the input reads as it did. -/
def circleRightUptoRow : OpenClaim := { program := "ytamjpnmjpponpaagreatdoor", sum := "98d87c615959dceb36856d4401b32763aef35aa7e1a9cd47165ccbb75d5a215a", func := "garland/garlandlaw25.CircleRight", spec := "circleRight", inPlace := ["slices.overlaps[garland/api.Node]"], unfollowed := true, recurses := true, named := ["garland/arc.starts", "garland/wait.waits", "garland/stab.rounds"], apart := false, laid := [("garland/arc.starts", laid_garland_arc_starts), ("garland/wait.waits", laid_garland_wait_waits), ("garland/stab.rounds", laid_garland_stab_rounds)], narrowed := true }
def CircleRightUptoSaid : Prop := circleRightUptoRow.holds Tryz.pinned (OpenSpec.upto circleRightSpec)

/-- 'garlandlaw25.CircleDrain', WHERE WHAT IT READS IS OF BULK AT MOST 1048576: true; the input reads as it did. -/
def circleDrainUptoRow : OpenClaim := { program := "ytamjpnmjpponpaagreatdoor", sum := "98d87c615959dceb36856d4401b32763aef35aa7e1a9cd47165ccbb75d5a215a", func := "garland/garlandlaw25.CircleDrain", spec := "circleDrain", inPlace := ["slices.overlaps[garland/api.Node]"], unfollowed := true, recurses := true, named := ["garland/arc.starts", "garland/wait.waits", "garland/stab.rounds"], apart := false, laid := [("garland/arc.starts", laid_garland_arc_starts), ("garland/wait.waits", laid_garland_wait_waits), ("garland/stab.rounds", laid_garland_stab_rounds)], narrowed := true }
def CircleDrainUptoSaid : Prop := circleDrainUptoRow.holds Tryz.pinned (OpenSpec.upto circleDrainSpec)

end Rows
end Go.Proofs.YtamjpnmjpponpaaGreatDoor
