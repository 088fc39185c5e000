/-
  NARROWER THAN 'FOR EVERY INPUT', by the rows' own cells (each row's printed sentence says how): NodeStays: laid · NodeBad: laid · NodeTwice: laid · NodeSkips: laid · NodeClient: laid.
  DERIVED. THE GIVEN ROWS OF THIS SEAT. 5 by the template 'for every input the law returns true; each argument reads behind the call as it read before'; 0 by the template 'total and deterministic' (their statements: YtkljbfejbakooaaGreatDoorTotals.lean).
  GIVEN WITH THE SEED: the statements are not yours to turn. If you find one false, say at which input.
  Laid BY PROGRAM, IN A SANDBOX (cutbox-rows.mjs): the forced cells as the released guide's own fill.sh prints them over the translation c0dfb6d081b7d715… (all of the seat's roots in one cut). By AI agents, Wed Nov 11 2026. No macro, syntax, notation, axiom, sorry.
-/
import Derived.Test.YtkljbfejbakooaaGreatDoorChecked
import GoSem.Claim
import GoSem.ClaimJoined
import GoSem.ClaimMapViews
import Derived.JoinedTies
import Derived.KernelRfl
namespace Go.Proofs.YtkljbfejbakooaaGreatDoor
/- THE CELL 'sum', in the pinned program and in every row, IS THE sha256 OF THE DUMP (.gsa) THAT YtkljbfejbakooaaGreatDoorProg.lean LOADS. Nothing in Lean hashes anything: it is a label: what it is worth is what the hold of that sum in a sandbox is worth. -/
noncomputable def Tryz.pinned : Pinned := { name := "ytkljbfejbakooaagreatdoor", sum := "c0dfb6d081b7d7159a831dee4d2650fcc734e2ec5a922db3937f8e7fa7efeac8", checked := Tryz.checked }
namespace Rows
def none {H : Type} : Left H := { results := [], args := [] }

/- WHAT THE LISTED PACKAGE-LEVEL VARIABLES READ AS WHEN THE CALL BEGINS. Each datum BY PROGRAM (the guide's laid-datum.mjs) off the statement by which the dump's own 'gosem.cut.vars' lays the variable. In a bare row this is a premise. The card (YtkljbfejbakooaaGreatDoorCards.lean) ties it to the program's text. -/
def laid_garland_arc_starts {H : Type} : DataW H := .agg [.lit (.int .i64 1), .lit (.int .i64 2), .lit (.int .i64 4), .lit (.int .i64 8), .lit (.int .i64 16), .lit (.int .i64 32), .lit (.int .i64 64), .lit (.int .i64 128), .lit (.int .i64 256), .lit (.int .i64 512), .lit (.int .i64 1024), .lit (.int .i64 2048), .lit (.int .i64 4096), .lit (.int .i64 8192), .lit (.int .i64 16384), .lit (.int .i64 32768)]
def laid_garland_wait_waits {H : Type} : DataW H := .agg [.lit (.int .i64 1), .lit (.int .i64 2), .lit (.int .i64 4)]
def laid_garland_stab_rounds {H : Type} : DataW H := .agg [.agg [.lit (.int .u8 0), .lit (.int .u8 0)], .agg [.lit (.int .u8 1), .lit (.int .u8 1)], .agg [.lit (.int .u8 1), .lit (.int .u8 2)], .agg [.lit (.int .u8 3), .lit (.int .u8 3)]]

/-- 'garlandlaw24.NodeStays': WHATEVER THE INPUT: true; the input reads as it did. -/
def nodeStaysSpec : ChangeSpec := { name := "nodeStays", fn := fun _ => fun
  | [d1, d2, d3, d4] => { results := [.lit (.bool true)], args := [d1, d2, d3, d4] }
  | _ => none }
def nodeStaysRow : OpenClaim := { program := "ytkljbfejbakooaagreatdoor", sum := "c0dfb6d081b7d7159a831dee4d2650fcc734e2ec5a922db3937f8e7fa7efeac8", func := "garland/garlandlaw24.NodeStays", spec := "nodeStays", unfollowed := true, recurses := true, named := ["garland/wait.waits", "garland/arc.starts", "garland/stab.rounds"], apart := false, laid := [("garland/arc.starts", laid_garland_arc_starts), ("garland/wait.waits", laid_garland_wait_waits), ("garland/stab.rounds", laid_garland_stab_rounds)] }
def NodeStaysSaid : Prop := nodeStaysRow.holds Tryz.pinned (OpenSpec.ofChange nodeStaysSpec)

/-- ITS FALSE NEIGHBOUR: 'it returns false'. Refute it at one input. -/
def nodeStaysWrong : ChangeSpec := { name := "nodeStays", fn := fun _ => fun
  | [d1, d2, d3, d4] => { results := [.lit (.bool false)], args := [d1, d2, d3, d4] }
  | _ => none }
def NodeStaysWrongFalsely : Prop := nodeStaysRow.holds Tryz.pinned (OpenSpec.ofChange nodeStaysWrong)

/-- 'garlandlaw24.NodeBad': WHATEVER THE INPUT: true; the input reads as it did. -/
def nodeBadSpec : ChangeSpec := { name := "nodeBad", fn := fun _ => fun
  | [d1, d2, d3] => { results := [.lit (.bool true)], args := [d1, d2, d3] }
  | _ => none }
def nodeBadRow : OpenClaim := { program := "ytkljbfejbakooaagreatdoor", sum := "c0dfb6d081b7d7159a831dee4d2650fcc734e2ec5a922db3937f8e7fa7efeac8", func := "garland/garlandlaw24.NodeBad", spec := "nodeBad", unfollowed := true, recurses := true, named := ["garland/wait.waits", "garland/arc.starts", "garland/stab.rounds"], apart := false, laid := [("garland/arc.starts", laid_garland_arc_starts), ("garland/wait.waits", laid_garland_wait_waits), ("garland/stab.rounds", laid_garland_stab_rounds)] }
def NodeBadSaid : Prop := nodeBadRow.holds Tryz.pinned (OpenSpec.ofChange nodeBadSpec)

/-- ITS FALSE NEIGHBOUR: 'it returns false'. Refute it at one input. -/
def nodeBadWrong : ChangeSpec := { name := "nodeBad", fn := fun _ => fun
  | [d1, d2, d3] => { results := [.lit (.bool false)], args := [d1, d2, d3] }
  | _ => none }
def NodeBadWrongFalsely : Prop := nodeBadRow.holds Tryz.pinned (OpenSpec.ofChange nodeBadWrong)

/-- 'garlandlaw24.NodeTwice': WHATEVER THE INPUT: true; the input reads as it did. -/
def nodeTwiceSpec : ChangeSpec := { name := "nodeTwice", fn := fun _ => fun
  | [d1, d2] => { results := [.lit (.bool true)], args := [d1, d2] }
  | _ => none }
def nodeTwiceRow : OpenClaim := { program := "ytkljbfejbakooaagreatdoor", sum := "c0dfb6d081b7d7159a831dee4d2650fcc734e2ec5a922db3937f8e7fa7efeac8", func := "garland/garlandlaw24.NodeTwice", spec := "nodeTwice", unfollowed := true, recurses := true, named := ["garland/wait.waits", "garland/arc.starts", "garland/stab.rounds"], apart := false, laid := [("garland/arc.starts", laid_garland_arc_starts), ("garland/wait.waits", laid_garland_wait_waits), ("garland/stab.rounds", laid_garland_stab_rounds)] }
def NodeTwiceSaid : Prop := nodeTwiceRow.holds Tryz.pinned (OpenSpec.ofChange nodeTwiceSpec)

/-- ITS FALSE NEIGHBOUR: 'it returns false'. Refute it at one input. -/
def nodeTwiceWrong : ChangeSpec := { name := "nodeTwice", fn := fun _ => fun
  | [d1, d2] => { results := [.lit (.bool false)], args := [d1, d2] }
  | _ => none }
def NodeTwiceWrongFalsely : Prop := nodeTwiceRow.holds Tryz.pinned (OpenSpec.ofChange nodeTwiceWrong)

/-- 'garlandlaw24.NodeSkips': WHATEVER THE INPUT: true; the input reads as it did. -/
def nodeSkipsSpec : ChangeSpec := { name := "nodeSkips", fn := fun _ => fun
  | [d1, d2] => { results := [.lit (.bool true)], args := [d1, d2] }
  | _ => none }
def nodeSkipsRow : OpenClaim := { program := "ytkljbfejbakooaagreatdoor", sum := "c0dfb6d081b7d7159a831dee4d2650fcc734e2ec5a922db3937f8e7fa7efeac8", func := "garland/garlandlaw24.NodeSkips", spec := "nodeSkips", unfollowed := true, recurses := true, named := ["garland/wait.waits", "garland/arc.starts", "garland/stab.rounds"], apart := false, laid := [("garland/arc.starts", laid_garland_arc_starts), ("garland/wait.waits", laid_garland_wait_waits), ("garland/stab.rounds", laid_garland_stab_rounds)] }
def NodeSkipsSaid : Prop := nodeSkipsRow.holds Tryz.pinned (OpenSpec.ofChange nodeSkipsSpec)

/-- ITS FALSE NEIGHBOUR: 'it returns false'. Refute it at one input. -/
def nodeSkipsWrong : ChangeSpec := { name := "nodeSkips", fn := fun _ => fun
  | [d1, d2] => { results := [.lit (.bool false)], args := [d1, d2] }
  | _ => none }
def NodeSkipsWrongFalsely : Prop := nodeSkipsRow.holds Tryz.pinned (OpenSpec.ofChange nodeSkipsWrong)

/-- 'garlandlaw24.NodeClient': WHATEVER THE INPUT: true; the input reads as it did. -/
def nodeClientSpec : ChangeSpec := { name := "nodeClient", fn := fun _ => fun
  | [d1, d2, d3] => { results := [.lit (.bool true)], args := [d1, d2, d3] }
  | _ => none }
def nodeClientRow : OpenClaim := { program := "ytkljbfejbakooaagreatdoor", sum := "c0dfb6d081b7d7159a831dee4d2650fcc734e2ec5a922db3937f8e7fa7efeac8", func := "garland/garlandlaw24.NodeClient", spec := "nodeClient", unfollowed := true, recurses := true, named := ["garland/wait.waits", "garland/arc.starts", "garland/stab.rounds"], apart := false, laid := [("garland/arc.starts", laid_garland_arc_starts), ("garland/wait.waits", laid_garland_wait_waits), ("garland/stab.rounds", laid_garland_stab_rounds)] }
def NodeClientSaid : Prop := nodeClientRow.holds Tryz.pinned (OpenSpec.ofChange nodeClientSpec)

/-- ITS FALSE NEIGHBOUR: 'it returns false'. Refute it at one input. -/
def nodeClientWrong : ChangeSpec := { name := "nodeClient", fn := fun _ => fun
  | [d1, d2, d3] => { results := [.lit (.bool false)], args := [d1, d2, d3] }
  | _ => none }
def NodeClientWrongFalsely : Prop := nodeClientRow.holds Tryz.pinned (OpenSpec.ofChange nodeClientWrong)

/- THE SECOND FORM. 'bulk': how many values and letters a reading holds, each counted each time it is reached (what is shared counts as often as it is met; a slice's spare places count too). A statement '..UptoSaid' is the law's where the arguments, and the package variables that the reading takes, are together of bulk at most 1048576: NARROWER than '..Said'. Prove '..Said' where nothing that the law and all that it calls make is longer than what came in: it says more and counts as full. Else prove '..UptoSaid'. A law counts once. -/
mutual
def uptoBulk {H : Type} : DataW H → Nat
  | .lit (.string bytes) => bytes.length + 1
  | .lit _ => 1
  | .nil => 1
  | .ptr d => uptoBulk d + 1
  | .slice elems spare => uptoBulkAll elems + uptoBulkAll spare + 1
  | .agg parts => uptoBulkAll parts + 1
  | .iface _ d => uptoBulk d + 1
  | .map entries => uptoBulkEntries entries + 1
  | .held _ => 1
def uptoBulkAll {H : Type} : List (DataW H) → Nat
  | [] => 0
  | d :: r => uptoBulk d + uptoBulkAll r
def uptoBulkEntries {H : Type} : List (Lit × DataW H) → Nat
  | [] => 0
  | x :: r => uptoBulkEntry x + uptoBulkEntries r
def uptoBulkEntry {H : Type} : Lit × DataW H → Nat
  | (.string bytes, d) => bytes.length + uptoBulk d + 1
  | (_, d) => uptoBulk d + 1
 end
def uptoSmall : (H : Type) → List (DataW H) → Bool := fun _ ds => decide (uptoBulkAll ds ≤ 1048576)
def OpenSpec.upto (s : _root_.Go.ChangeSpec) : _root_.Go.OpenSpec := { _root_.Go.OpenSpec.ofChange s with cond := some uptoSmall }

/-- 'garlandlaw24.NodeStays', WHERE WHAT IT READS IS OF BULK AT MOST 1048576: true; the input reads as it did. -/
def nodeStaysUptoRow : OpenClaim := { program := "ytkljbfejbakooaagreatdoor", sum := "c0dfb6d081b7d7159a831dee4d2650fcc734e2ec5a922db3937f8e7fa7efeac8", func := "garland/garlandlaw24.NodeStays", spec := "nodeStays", unfollowed := true, recurses := true, named := ["garland/wait.waits", "garland/arc.starts", "garland/stab.rounds"], apart := false, laid := [("garland/arc.starts", laid_garland_arc_starts), ("garland/wait.waits", laid_garland_wait_waits), ("garland/stab.rounds", laid_garland_stab_rounds)], narrowed := true }
def NodeStaysUptoSaid : Prop := nodeStaysUptoRow.holds Tryz.pinned (OpenSpec.upto nodeStaysSpec)

/-- 'garlandlaw24.NodeBad', WHERE WHAT IT READS IS OF BULK AT MOST 1048576: true; the input reads as it did. -/
def nodeBadUptoRow : OpenClaim := { program := "ytkljbfejbakooaagreatdoor", sum := "c0dfb6d081b7d7159a831dee4d2650fcc734e2ec5a922db3937f8e7fa7efeac8", func := "garland/garlandlaw24.NodeBad", spec := "nodeBad", unfollowed := true, recurses := true, named := ["garland/wait.waits", "garland/arc.starts", "garland/stab.rounds"], apart := false, laid := [("garland/arc.starts", laid_garland_arc_starts), ("garland/wait.waits", laid_garland_wait_waits), ("garland/stab.rounds", laid_garland_stab_rounds)], narrowed := true }
def NodeBadUptoSaid : Prop := nodeBadUptoRow.holds Tryz.pinned (OpenSpec.upto nodeBadSpec)

/-- 'garlandlaw24.NodeTwice', WHERE WHAT IT READS IS OF BULK AT MOST 1048576: true; the input reads as it did. -/
def nodeTwiceUptoRow : OpenClaim := { program := "ytkljbfejbakooaagreatdoor", sum := "c0dfb6d081b7d7159a831dee4d2650fcc734e2ec5a922db3937f8e7fa7efeac8", func := "garland/garlandlaw24.NodeTwice", spec := "nodeTwice", unfollowed := true, recurses := true, named := ["garland/wait.waits", "garland/arc.starts", "garland/stab.rounds"], apart := false, laid := [("garland/arc.starts", laid_garland_arc_starts), ("garland/wait.waits", laid_garland_wait_waits), ("garland/stab.rounds", laid_garland_stab_rounds)], narrowed := true }
def NodeTwiceUptoSaid : Prop := nodeTwiceUptoRow.holds Tryz.pinned (OpenSpec.upto nodeTwiceSpec)

/-- 'garlandlaw24.NodeSkips', WHERE WHAT IT READS IS OF BULK AT MOST 1048576: true; the input reads as it did. -/
def nodeSkipsUptoRow : OpenClaim := { program := "ytkljbfejbakooaagreatdoor", sum := "c0dfb6d081b7d7159a831dee4d2650fcc734e2ec5a922db3937f8e7fa7efeac8", func := "garland/garlandlaw24.NodeSkips", spec := "nodeSkips", unfollowed := true, recurses := true, named := ["garland/wait.waits", "garland/arc.starts", "garland/stab.rounds"], apart := false, laid := [("garland/arc.starts", laid_garland_arc_starts), ("garland/wait.waits", laid_garland_wait_waits), ("garland/stab.rounds", laid_garland_stab_rounds)], narrowed := true }
def NodeSkipsUptoSaid : Prop := nodeSkipsUptoRow.holds Tryz.pinned (OpenSpec.upto nodeSkipsSpec)

/-- 'garlandlaw24.NodeClient', WHERE WHAT IT READS IS OF BULK AT MOST 1048576: true; the input reads as it did. -/
def nodeClientUptoRow : OpenClaim := { program := "ytkljbfejbakooaagreatdoor", sum := "c0dfb6d081b7d7159a831dee4d2650fcc734e2ec5a922db3937f8e7fa7efeac8", func := "garland/garlandlaw24.NodeClient", spec := "nodeClient", unfollowed := true, recurses := true, named := ["garland/wait.waits", "garland/arc.starts", "garland/stab.rounds"], apart := false, laid := [("garland/arc.starts", laid_garland_arc_starts), ("garland/wait.waits", laid_garland_wait_waits), ("garland/stab.rounds", laid_garland_stab_rounds)], narrowed := true }
def NodeClientUptoSaid : Prop := nodeClientUptoRow.holds Tryz.pinned (OpenSpec.upto nodeClientSpec)

end Rows
end Go.Proofs.YtkljbfejbakooaaGreatDoor
