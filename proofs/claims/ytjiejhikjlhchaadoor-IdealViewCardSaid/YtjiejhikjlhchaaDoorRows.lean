/-
  NARROWER THAN 'FOR EVERY INPUT', by the rows' own cells (each row's printed sentence says how): IdealTells: laid · IdealRing: laid · IdealOwner: laid · IdealView: laid · IdealMore: laid.
  DERIVED. THE GIVEN ROWS OF THIS SEAT. 5 by the template 'for every input the law returns true; each argument reads behind the call as it read before'; 0 by the template 'total and deterministic' (their statements: YtjiejhikjlhchaaDoorTotals.lean).
  GIVEN WITH THE SEED: the statements are not yours to turn. If you find one false, say at which input.
  Laid BY PROGRAM, IN A SANDBOX (cutbox-rows.mjs): the forced cells as the released guide's own fill.sh prints them over the translation 4cd274a728162fa1… (all of the seat's roots in one cut). By AI agents, Wed Nov 11 2026. No macro, syntax, notation, axiom, sorry.
-/
import Derived.Test.YtjiejhikjlhchaaDoorChecked
import GoSem.Claim
import GoSem.ClaimJoined
import GoSem.ClaimMapViews
import Derived.JoinedTies
import Derived.KernelRfl
namespace Go.Proofs.YtjiejhikjlhchaaDoor
/- THE CELL 'sum', in the pinned program and in every row, IS THE sha256 OF THE DUMP (.gsa) THAT YtjiejhikjlhchaaDoorProg.lean LOADS. Nothing in Lean hashes anything: it is a label: what it is worth is what the hold of that sum in a sandbox is worth. -/
noncomputable def Tryd.pinned : Pinned := { name := "ytjiejhikjlhchaadoor", sum := "4cd274a728162fa1bb31798787e7c608b2704cfd5db2622549e48044d663b8d1", checked := Tryd.checked }
namespace Rows
def none {H : Type} : Left H := { results := [], args := [] }

/- WHAT THE LISTED PACKAGE-LEVEL VARIABLES READ AS WHEN THE CALL BEGINS. Each datum BY PROGRAM (the guide's laid-datum.mjs) off the statement by which the dump's own 'gosem.cut.vars' lays the variable. In a bare row this is a premise. The card (YtjiejhikjlhchaaDoorCards.lean) ties it to the program's text. -/
def laid_garland_arc_starts {H : Type} : DataW H := .agg [.lit (.int .i64 1), .lit (.int .i64 2), .lit (.int .i64 4), .lit (.int .i64 8), .lit (.int .i64 16), .lit (.int .i64 32), .lit (.int .i64 64), .lit (.int .i64 128), .lit (.int .i64 256), .lit (.int .i64 512), .lit (.int .i64 1024), .lit (.int .i64 2048), .lit (.int .i64 4096), .lit (.int .i64 8192), .lit (.int .i64 16384), .lit (.int .i64 32768)]

/-- 'garlandlaw26.IdealTells': WHATEVER THE INPUT: true; the input reads as it did. -/
def idealTellsSpec : ChangeSpec := { name := "idealTells", fn := fun _ => fun
  | [d1, d2, d3, d4] => { results := [.lit (.bool true)], args := [d1, d2, d3, d4] }
  | _ => none }
def idealTellsRow : OpenClaim := { program := "ytjiejhikjlhchaadoor", sum := "4cd274a728162fa1bb31798787e7c608b2704cfd5db2622549e48044d663b8d1", func := "garland/garlandlaw26.IdealTells", spec := "idealTells", unfollowed := true, recurses := true, named := ["garland/arc.starts"], apart := false, laid := [("garland/arc.starts", laid_garland_arc_starts)] }
def IdealTellsSaid : Prop := idealTellsRow.holds Tryd.pinned (OpenSpec.ofChange idealTellsSpec)

/-- ITS FALSE NEIGHBOUR: 'it returns false'. Refute it at one input. -/
def idealTellsWrong : ChangeSpec := { name := "idealTells", fn := fun _ => fun
  | [d1, d2, d3, d4] => { results := [.lit (.bool false)], args := [d1, d2, d3, d4] }
  | _ => none }
def IdealTellsWrongFalsely : Prop := idealTellsRow.holds Tryd.pinned (OpenSpec.ofChange idealTellsWrong)

/-- 'garlandlaw26.IdealRing': WHATEVER THE INPUT: true; the input reads as it did. -/
def idealRingSpec : ChangeSpec := { name := "idealRing", fn := fun _ => fun
  | [d1, d2] => { results := [.lit (.bool true)], args := [d1, d2] }
  | _ => none }
def idealRingRow : OpenClaim := { program := "ytjiejhikjlhchaadoor", sum := "4cd274a728162fa1bb31798787e7c608b2704cfd5db2622549e48044d663b8d1", func := "garland/garlandlaw26.IdealRing", spec := "idealRing", unfollowed := true, recurses := true, named := ["garland/arc.starts"], apart := false, laid := [("garland/arc.starts", laid_garland_arc_starts)] }
def IdealRingSaid : Prop := idealRingRow.holds Tryd.pinned (OpenSpec.ofChange idealRingSpec)

/-- ITS FALSE NEIGHBOUR: 'it returns false'. Refute it at one input. -/
def idealRingWrong : ChangeSpec := { name := "idealRing", fn := fun _ => fun
  | [d1, d2] => { results := [.lit (.bool false)], args := [d1, d2] }
  | _ => none }
def IdealRingWrongFalsely : Prop := idealRingRow.holds Tryd.pinned (OpenSpec.ofChange idealRingWrong)

/-- 'garlandlaw26.IdealOwner': WHATEVER THE INPUT: true; the input reads as it did. -/
def idealOwnerSpec : ChangeSpec := { name := "idealOwner", fn := fun _ => fun
  | [d1, d2] => { results := [.lit (.bool true)], args := [d1, d2] }
  | _ => none }
def idealOwnerRow : OpenClaim := { program := "ytjiejhikjlhchaadoor", sum := "4cd274a728162fa1bb31798787e7c608b2704cfd5db2622549e48044d663b8d1", func := "garland/garlandlaw26.IdealOwner", spec := "idealOwner", unfollowed := true, recurses := true, named := ["garland/arc.starts"], apart := false, laid := [("garland/arc.starts", laid_garland_arc_starts)] }
def IdealOwnerSaid : Prop := idealOwnerRow.holds Tryd.pinned (OpenSpec.ofChange idealOwnerSpec)

/-- ITS FALSE NEIGHBOUR: 'it returns false'. Refute it at one input. -/
def idealOwnerWrong : ChangeSpec := { name := "idealOwner", fn := fun _ => fun
  | [d1, d2] => { results := [.lit (.bool false)], args := [d1, d2] }
  | _ => none }
def IdealOwnerWrongFalsely : Prop := idealOwnerRow.holds Tryd.pinned (OpenSpec.ofChange idealOwnerWrong)

/-- 'garlandlaw26.IdealView': WHATEVER THE INPUT: true; the input reads as it did. -/
def idealViewSpec : ChangeSpec := { name := "idealView", fn := fun _ => fun
  | [d1, d2, d3, d4, d5] => { results := [.lit (.bool true)], args := [d1, d2, d3, d4, d5] }
  | _ => none }
def idealViewRow : OpenClaim := { program := "ytjiejhikjlhchaadoor", sum := "4cd274a728162fa1bb31798787e7c608b2704cfd5db2622549e48044d663b8d1", func := "garland/garlandlaw26.IdealView", spec := "idealView", unfollowed := true, recurses := true, named := ["garland/arc.starts"], apart := false, laid := [("garland/arc.starts", laid_garland_arc_starts)] }
def IdealViewSaid : Prop := idealViewRow.holds Tryd.pinned (OpenSpec.ofChange idealViewSpec)

/-- ITS FALSE NEIGHBOUR: 'it returns false'. Refute it at one input. -/
def idealViewWrong : ChangeSpec := { name := "idealView", fn := fun _ => fun
  | [d1, d2, d3, d4, d5] => { results := [.lit (.bool false)], args := [d1, d2, d3, d4, d5] }
  | _ => none }
def IdealViewWrongFalsely : Prop := idealViewRow.holds Tryd.pinned (OpenSpec.ofChange idealViewWrong)

/-- 'garlandlaw26.IdealMore': WHATEVER THE INPUT: true; the input reads as it did. -/
def idealMoreSpec : ChangeSpec := { name := "idealMore", fn := fun _ => fun
  | [d1, d2] => { results := [.lit (.bool true)], args := [d1, d2] }
  | _ => none }
def idealMoreRow : OpenClaim := { program := "ytjiejhikjlhchaadoor", sum := "4cd274a728162fa1bb31798787e7c608b2704cfd5db2622549e48044d663b8d1", func := "garland/garlandlaw26.IdealMore", spec := "idealMore", unfollowed := true, recurses := true, named := ["garland/arc.starts"], apart := false, laid := [("garland/arc.starts", laid_garland_arc_starts)] }
def IdealMoreSaid : Prop := idealMoreRow.holds Tryd.pinned (OpenSpec.ofChange idealMoreSpec)

/-- ITS FALSE NEIGHBOUR: 'it returns false'. Refute it at one input. -/
def idealMoreWrong : ChangeSpec := { name := "idealMore", fn := fun _ => fun
  | [d1, d2] => { results := [.lit (.bool false)], args := [d1, d2] }
  | _ => none }
def IdealMoreWrongFalsely : Prop := idealMoreRow.holds Tryd.pinned (OpenSpec.ofChange idealMoreWrong)

/- THE SECOND FORM. 'bulk': how many values and letters a reading holds, each counted each time it is reached (what is shared counts as often as it is met; a slice's spare places count too). A statement '..UptoSaid' is the law's where the arguments, and the package variables that the reading takes, are together of bulk at most 1048576: NARROWER than '..Said'. Prove '..Said' where nothing that the law and all that it calls make is longer than what came in: it says more and counts as full. Else prove '..UptoSaid'. A law counts once. -/
mutual
def uptoBulk {H : Type} : DataW H → Nat
  | .lit (.string bytes) => bytes.length + 1
  | .lit _ => 1
  | .nil => 1
  | .ptr d => uptoBulk d + 1
  | .slice elems spare => uptoBulkAll elems + uptoBulkAll spare + 1
  | .agg parts => uptoBulkAll parts + 1
  | .iface _ d => uptoBulk d + 1
  | .map entries => uptoBulkEntries entries + 1
  | .held _ => 1
def uptoBulkAll {H : Type} : List (DataW H) → Nat
  | [] => 0
  | d :: r => uptoBulk d + uptoBulkAll r
def uptoBulkEntries {H : Type} : List (Lit × DataW H) → Nat
  | [] => 0
  | x :: r => uptoBulkEntry x + uptoBulkEntries r
def uptoBulkEntry {H : Type} : Lit × DataW H → Nat
  | (.string bytes, d) => bytes.length + uptoBulk d + 1
  | (_, d) => uptoBulk d + 1
 end
def uptoSmall : (H : Type) → List (DataW H) → Bool := fun _ ds => decide (uptoBulkAll ds ≤ 1048576)
def OpenSpec.upto (s : _root_.Go.ChangeSpec) : _root_.Go.OpenSpec := { _root_.Go.OpenSpec.ofChange s with cond := some uptoSmall }

/-- 'garlandlaw26.IdealTells', WHERE WHAT IT READS IS OF BULK AT MOST 1048576: true; the input reads as it did. -/
def idealTellsUptoRow : OpenClaim := { program := "ytjiejhikjlhchaadoor", sum := "4cd274a728162fa1bb31798787e7c608b2704cfd5db2622549e48044d663b8d1", func := "garland/garlandlaw26.IdealTells", spec := "idealTells", unfollowed := true, recurses := true, named := ["garland/arc.starts"], apart := false, laid := [("garland/arc.starts", laid_garland_arc_starts)], narrowed := true }
def IdealTellsUptoSaid : Prop := idealTellsUptoRow.holds Tryd.pinned (OpenSpec.upto idealTellsSpec)

/-- 'garlandlaw26.IdealRing', WHERE WHAT IT READS IS OF BULK AT MOST 1048576: true; the input reads as it did. -/
def idealRingUptoRow : OpenClaim := { program := "ytjiejhikjlhchaadoor", sum := "4cd274a728162fa1bb31798787e7c608b2704cfd5db2622549e48044d663b8d1", func := "garland/garlandlaw26.IdealRing", spec := "idealRing", unfollowed := true, recurses := true, named := ["garland/arc.starts"], apart := false, laid := [("garland/arc.starts", laid_garland_arc_starts)], narrowed := true }
def IdealRingUptoSaid : Prop := idealRingUptoRow.holds Tryd.pinned (OpenSpec.upto idealRingSpec)

/-- 'garlandlaw26.IdealOwner', WHERE WHAT IT READS IS OF BULK AT MOST 1048576: true; the input reads as it did. -/
def idealOwnerUptoRow : OpenClaim := { program := "ytjiejhikjlhchaadoor", sum := "4cd274a728162fa1bb31798787e7c608b2704cfd5db2622549e48044d663b8d1", func := "garland/garlandlaw26.IdealOwner", spec := "idealOwner", unfollowed := true, recurses := true, named := ["garland/arc.starts"], apart := false, laid := [("garland/arc.starts", laid_garland_arc_starts)], narrowed := true }
def IdealOwnerUptoSaid : Prop := idealOwnerUptoRow.holds Tryd.pinned (OpenSpec.upto idealOwnerSpec)

/-- 'garlandlaw26.IdealView', WHERE WHAT IT READS IS OF BULK AT MOST 1048576: true; the input reads as it did. -/
def idealViewUptoRow : OpenClaim := { program := "ytjiejhikjlhchaadoor", sum := "4cd274a728162fa1bb31798787e7c608b2704cfd5db2622549e48044d663b8d1", func := "garland/garlandlaw26.IdealView", spec := "idealView", unfollowed := true, recurses := true, named := ["garland/arc.starts"], apart := false, laid := [("garland/arc.starts", laid_garland_arc_starts)], narrowed := true }
def IdealViewUptoSaid : Prop := idealViewUptoRow.holds Tryd.pinned (OpenSpec.upto idealViewSpec)

/-- 'garlandlaw26.IdealMore', WHERE WHAT IT READS IS OF BULK AT MOST 1048576: true; the input reads as it did. -/
def idealMoreUptoRow : OpenClaim := { program := "ytjiejhikjlhchaadoor", sum := "4cd274a728162fa1bb31798787e7c608b2704cfd5db2622549e48044d663b8d1", func := "garland/garlandlaw26.IdealMore", spec := "idealMore", unfollowed := true, recurses := true, named := ["garland/arc.starts"], apart := false, laid := [("garland/arc.starts", laid_garland_arc_starts)], narrowed := true }
def IdealMoreUptoSaid : Prop := idealMoreUptoRow.holds Tryd.pinned (OpenSpec.upto idealMoreSpec)

end Rows
end Go.Proofs.YtjiejhikjlhchaaDoor
