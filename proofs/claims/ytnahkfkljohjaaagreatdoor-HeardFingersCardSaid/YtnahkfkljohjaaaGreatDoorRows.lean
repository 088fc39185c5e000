/-
  NARROWER THAN 'FOR EVERY INPUT', by the rows' own cells (each row's printed sentence says how): HeardSkips: laid · HeardKeeps: laid · HeardApart: laid · HeardFingers: laid.
  DERIVED. THE GIVEN ROWS OF THIS SEAT. 4 by the template 'for every input the law returns true; each argument reads behind the call as it read before'; 0 by the template 'total and deterministic' (their statements: YtnahkfkljohjaaaGreatDoorTotals.lean).
  GIVEN WITH THE SEED: the statements are not yours to turn. If you find one false, say at which input.
  Laid BY PROGRAM, IN A SANDBOX (cutbox-rows.mjs): the forced cells as the released guide's own fill.sh prints them over the translation 937592107442164e… (all of the seat's roots in one cut). By AI agents, Wed Nov 11 2026. No macro, syntax, notation, axiom, sorry.
-/
import Derived.Test.YtnahkfkljohjaaaGreatDoorChecked
import GoSem.Claim
import GoSem.ClaimJoined
import GoSem.ClaimMapViews
import Derived.JoinedTies
import Derived.KernelRfl
namespace Go.Proofs.YtnahkfkljohjaaaGreatDoor
/- THE CELL 'sum', in the pinned program and in every row, IS THE sha256 OF THE DUMP (.gsa) THAT YtnahkfkljohjaaaGreatDoorProg.lean LOADS. Nothing in Lean hashes anything: it is a label: what it is worth is what the hold of that sum in a sandbox is worth. -/
noncomputable def Tryz.pinned : Pinned := { name := "ytnahkfkljohjaaagreatdoor", sum := "937592107442164e7b3c9a9af71e42deb4c97c7dc2ddb1ba5283571d9bc0db67", checked := Tryz.checked }
namespace Rows
def none {H : Type} : Left H := { results := [], args := [] }

/- WHAT THE LISTED PACKAGE-LEVEL VARIABLES READ AS WHEN THE CALL BEGINS. Each datum BY PROGRAM (the guide's laid-datum.mjs) off the statement by which the dump's own 'gosem.cut.vars' lays the variable. In a bare row this is a premise. The card (YtnahkfkljohjaaaGreatDoorCards.lean) ties it to the program's text. -/
def laid_garland_arc_starts {H : Type} : DataW H := .agg [.lit (.int .i64 1), .lit (.int .i64 2), .lit (.int .i64 4), .lit (.int .i64 8), .lit (.int .i64 16), .lit (.int .i64 32), .lit (.int .i64 64), .lit (.int .i64 128), .lit (.int .i64 256), .lit (.int .i64 512), .lit (.int .i64 1024), .lit (.int .i64 2048), .lit (.int .i64 4096), .lit (.int .i64 8192), .lit (.int .i64 16384), .lit (.int .i64 32768)]
def laid_garland_stab_rounds {H : Type} : DataW H := .agg [.agg [.lit (.int .u8 0), .lit (.int .u8 0)], .agg [.lit (.int .u8 1), .lit (.int .u8 1)], .agg [.lit (.int .u8 1), .lit (.int .u8 2)], .agg [.lit (.int .u8 3), .lit (.int .u8 3)]]

/-- 'garlandlaw23.HeardSkips': WHATEVER THE INPUT: true; the input reads as it did. -/
def heardSkipsSpec : ChangeSpec := { name := "heardSkips", fn := fun _ => fun
  | [d1, d2, d3, d4, d5, d6, d7] => { results := [.lit (.bool true)], args := [d1, d2, d3, d4, d5, d6, d7] }
  | _ => none }
def heardSkipsRow : OpenClaim := { program := "ytnahkfkljohjaaagreatdoor", sum := "937592107442164e7b3c9a9af71e42deb4c97c7dc2ddb1ba5283571d9bc0db67", func := "garland/garlandlaw23.HeardSkips", spec := "heardSkips", unfollowed := true, recurses := true, named := ["garland/arc.starts", "garland/stab.rounds"], apart := false, laid := [("garland/arc.starts", laid_garland_arc_starts), ("garland/stab.rounds", laid_garland_stab_rounds)] }
def HeardSkipsSaid : Prop := heardSkipsRow.holds Tryz.pinned (OpenSpec.ofChange heardSkipsSpec)

/-- ITS FALSE NEIGHBOUR: 'it returns false'. Refute it at one input. -/
def heardSkipsWrong : ChangeSpec := { name := "heardSkips", fn := fun _ => fun
  | [d1, d2, d3, d4, d5, d6, d7] => { results := [.lit (.bool false)], args := [d1, d2, d3, d4, d5, d6, d7] }
  | _ => none }
def HeardSkipsWrongFalsely : Prop := heardSkipsRow.holds Tryz.pinned (OpenSpec.ofChange heardSkipsWrong)

/-- 'garlandlaw23.HeardKeeps': WHATEVER THE INPUT: true; the input reads as it did. -/
def heardKeepsSpec : ChangeSpec := { name := "heardKeeps", fn := fun _ => fun
  | [d1, d2, d3, d4, d5, d6, d7] => { results := [.lit (.bool true)], args := [d1, d2, d3, d4, d5, d6, d7] }
  | _ => none }
def heardKeepsRow : OpenClaim := { program := "ytnahkfkljohjaaagreatdoor", sum := "937592107442164e7b3c9a9af71e42deb4c97c7dc2ddb1ba5283571d9bc0db67", func := "garland/garlandlaw23.HeardKeeps", spec := "heardKeeps", unfollowed := true, recurses := true, named := ["garland/arc.starts", "garland/stab.rounds"], apart := false, laid := [("garland/arc.starts", laid_garland_arc_starts), ("garland/stab.rounds", laid_garland_stab_rounds)] }
def HeardKeepsSaid : Prop := heardKeepsRow.holds Tryz.pinned (OpenSpec.ofChange heardKeepsSpec)

/-- ITS FALSE NEIGHBOUR: 'it returns false'. Refute it at one input. -/
def heardKeepsWrong : ChangeSpec := { name := "heardKeeps", fn := fun _ => fun
  | [d1, d2, d3, d4, d5, d6, d7] => { results := [.lit (.bool false)], args := [d1, d2, d3, d4, d5, d6, d7] }
  | _ => none }
def HeardKeepsWrongFalsely : Prop := heardKeepsRow.holds Tryz.pinned (OpenSpec.ofChange heardKeepsWrong)

/-- 'garlandlaw23.HeardApart': WHATEVER THE INPUT: true; the input reads as it did. -/
def heardApartSpec : ChangeSpec := { name := "heardApart", fn := fun _ => fun
  | [d1, d2, d3] => { results := [.lit (.bool true)], args := [d1, d2, d3] }
  | _ => none }
def heardApartRow : OpenClaim := { program := "ytnahkfkljohjaaagreatdoor", sum := "937592107442164e7b3c9a9af71e42deb4c97c7dc2ddb1ba5283571d9bc0db67", func := "garland/garlandlaw23.HeardApart", spec := "heardApart", unfollowed := true, recurses := true, named := ["garland/arc.starts", "garland/stab.rounds"], apart := false, laid := [("garland/arc.starts", laid_garland_arc_starts), ("garland/stab.rounds", laid_garland_stab_rounds)] }
def HeardApartSaid : Prop := heardApartRow.holds Tryz.pinned (OpenSpec.ofChange heardApartSpec)

/-- ITS FALSE NEIGHBOUR: 'it returns false'. Refute it at one input. -/
def heardApartWrong : ChangeSpec := { name := "heardApart", fn := fun _ => fun
  | [d1, d2, d3] => { results := [.lit (.bool false)], args := [d1, d2, d3] }
  | _ => none }
def HeardApartWrongFalsely : Prop := heardApartRow.holds Tryz.pinned (OpenSpec.ofChange heardApartWrong)

/-- 'garlandlaw23.HeardFingers': WHATEVER THE INPUT: true; the input reads as it did. -/
def heardFingersSpec : ChangeSpec := { name := "heardFingers", fn := fun _ => fun
  | [d1, d2, d3] => { results := [.lit (.bool true)], args := [d1, d2, d3] }
  | _ => none }
def heardFingersRow : OpenClaim := { program := "ytnahkfkljohjaaagreatdoor", sum := "937592107442164e7b3c9a9af71e42deb4c97c7dc2ddb1ba5283571d9bc0db67", func := "garland/garlandlaw23.HeardFingers", spec := "heardFingers", unfollowed := true, recurses := true, named := ["garland/arc.starts", "garland/stab.rounds"], apart := false, laid := [("garland/arc.starts", laid_garland_arc_starts), ("garland/stab.rounds", laid_garland_stab_rounds)] }
def HeardFingersSaid : Prop := heardFingersRow.holds Tryz.pinned (OpenSpec.ofChange heardFingersSpec)

/-- ITS FALSE NEIGHBOUR: 'it returns false'. Refute it at one input. -/
def heardFingersWrong : ChangeSpec := { name := "heardFingers", fn := fun _ => fun
  | [d1, d2, d3] => { results := [.lit (.bool false)], args := [d1, d2, d3] }
  | _ => none }
def HeardFingersWrongFalsely : Prop := heardFingersRow.holds Tryz.pinned (OpenSpec.ofChange heardFingersWrong)

/- THE SECOND FORM. 'bulk': how many values and letters a reading holds, each counted each time it is reached (what is shared counts as often as it is met; a slice's spare places count too). A statement '..UptoSaid' is the law's where the arguments, and the package variables that the reading takes, are together of bulk at most 1048576: NARROWER than '..Said'. Prove '..Said' where nothing that the law and all that it calls make is longer than what came in: it says more and counts as full. Else prove '..UptoSaid'. A law counts once. -/
mutual
def uptoBulk {H : Type} : DataW H → Nat
  | .lit (.string bytes) => bytes.length + 1
  | .lit _ => 1
  | .nil => 1
  | .ptr d => uptoBulk d + 1
  | .slice elems spare => uptoBulkAll elems + uptoBulkAll spare + 1
  | .agg parts => uptoBulkAll parts + 1
  | .iface _ d => uptoBulk d + 1
  | .map entries => uptoBulkEntries entries + 1
  | .held _ => 1
def uptoBulkAll {H : Type} : List (DataW H) → Nat
  | [] => 0
  | d :: r => uptoBulk d + uptoBulkAll r
def uptoBulkEntries {H : Type} : List (Lit × DataW H) → Nat
  | [] => 0
  | x :: r => uptoBulkEntry x + uptoBulkEntries r
def uptoBulkEntry {H : Type} : Lit × DataW H → Nat
  | (.string bytes, d) => bytes.length + uptoBulk d + 1
  | (_, d) => uptoBulk d + 1
 end
def uptoSmall : (H : Type) → List (DataW H) → Bool := fun _ ds => decide (uptoBulkAll ds ≤ 1048576)
def OpenSpec.upto (s : _root_.Go.ChangeSpec) : _root_.Go.OpenSpec := { _root_.Go.OpenSpec.ofChange s with cond := some uptoSmall }

/-- 'garlandlaw23.HeardSkips', WHERE WHAT IT READS IS OF BULK AT MOST 1048576: true; the input reads as it did. -/
def heardSkipsUptoRow : OpenClaim := { program := "ytnahkfkljohjaaagreatdoor", sum := "937592107442164e7b3c9a9af71e42deb4c97c7dc2ddb1ba5283571d9bc0db67", func := "garland/garlandlaw23.HeardSkips", spec := "heardSkips", unfollowed := true, recurses := true, named := ["garland/arc.starts", "garland/stab.rounds"], apart := false, laid := [("garland/arc.starts", laid_garland_arc_starts), ("garland/stab.rounds", laid_garland_stab_rounds)], narrowed := true }
def HeardSkipsUptoSaid : Prop := heardSkipsUptoRow.holds Tryz.pinned (OpenSpec.upto heardSkipsSpec)

/-- 'garlandlaw23.HeardKeeps', WHERE WHAT IT READS IS OF BULK AT MOST 1048576: true; the input reads as it did. -/
def heardKeepsUptoRow : OpenClaim := { program := "ytnahkfkljohjaaagreatdoor", sum := "937592107442164e7b3c9a9af71e42deb4c97c7dc2ddb1ba5283571d9bc0db67", func := "garland/garlandlaw23.HeardKeeps", spec := "heardKeeps", unfollowed := true, recurses := true, named := ["garland/arc.starts", "garland/stab.rounds"], apart := false, laid := [("garland/arc.starts", laid_garland_arc_starts), ("garland/stab.rounds", laid_garland_stab_rounds)], narrowed := true }
def HeardKeepsUptoSaid : Prop := heardKeepsUptoRow.holds Tryz.pinned (OpenSpec.upto heardKeepsSpec)

/-- 'garlandlaw23.HeardApart', WHERE WHAT IT READS IS OF BULK AT MOST 1048576: true; the input reads as it did. -/
def heardApartUptoRow : OpenClaim := { program := "ytnahkfkljohjaaagreatdoor", sum := "937592107442164e7b3c9a9af71e42deb4c97c7dc2ddb1ba5283571d9bc0db67", func := "garland/garlandlaw23.HeardApart", spec := "heardApart", unfollowed := true, recurses := true, named := ["garland/arc.starts", "garland/stab.rounds"], apart := false, laid := [("garland/arc.starts", laid_garland_arc_starts), ("garland/stab.rounds", laid_garland_stab_rounds)], narrowed := true }
def HeardApartUptoSaid : Prop := heardApartUptoRow.holds Tryz.pinned (OpenSpec.upto heardApartSpec)

/-- 'garlandlaw23.HeardFingers', WHERE WHAT IT READS IS OF BULK AT MOST 1048576: true; the input reads as it did. -/
def heardFingersUptoRow : OpenClaim := { program := "ytnahkfkljohjaaagreatdoor", sum := "937592107442164e7b3c9a9af71e42deb4c97c7dc2ddb1ba5283571d9bc0db67", func := "garland/garlandlaw23.HeardFingers", spec := "heardFingers", unfollowed := true, recurses := true, named := ["garland/arc.starts", "garland/stab.rounds"], apart := false, laid := [("garland/arc.starts", laid_garland_arc_starts), ("garland/stab.rounds", laid_garland_stab_rounds)], narrowed := true }
def HeardFingersUptoSaid : Prop := heardFingersUptoRow.holds Tryz.pinned (OpenSpec.upto heardFingersSpec)

end Rows
end Go.Proofs.YtnahkfkljohjaaaGreatDoor
