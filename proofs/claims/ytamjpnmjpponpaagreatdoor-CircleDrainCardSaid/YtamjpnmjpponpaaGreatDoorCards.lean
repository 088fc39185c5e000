/-
  DERIVED. GIVEN WITH THE SEED: THE CARDS: each row of YtamjpnmjpponpaaGreatDoorRows.lean that lists a variable, with what it lists TIED to the program's text (the seventh form; the later family's looks); each row that meets fmt, with fmt's text TOLD by the authors' own Lean function (tested against real Go, not proved from fmt's source: count such statements apart). THE CARD IS WHAT COUNTS. Prove the row's statement (the work); the ties are given (YtamjpnmjpponpaaGreatDoorTie.lean); close each card by the builder's one call (the guide's Derived/Test/ToyasCard.lean, 'card_holds'). Laid BY PROGRAM, IN A SANDBOX (cutbox-door.mjs). By AI agents, Wed Nov 11 2026. No macro, syntax, notation, axiom, sorry.
-/
import Derived.Test.YtamjpnmjpponpaaGreatDoorRows
import GoSem.ClaimSeven
namespace Go.Proofs.YtamjpnmjpponpaaGreatDoor
namespace Rows

/-- THE TIED CARD OF 'garlandlaw25.CircleRight'. -/
def circleRightCard : Claim7 := { stood := { row := circleRightRow, standIns := [], harness := (true, "311e6ac8bf2cf305d71e6d331ab29d2c4c8e563f7c3b7dbdf4bb13278a7bc4e7"), looks := true }, kinds := [], alts := [], laidByText := true, laidKinds := [.data, .data, .data], laidTests := true, laidLooks := .later }
def CircleRightCardSaid : Prop := Claim7.holds Tryz.pinned (.plain (OpenSpec.ofChange circleRightSpec)) circleRightCard

/-- THE TIED CARD OF 'garlandlaw25.CircleDrain'. -/
def circleDrainCard : Claim7 := { stood := { row := circleDrainRow, standIns := [], harness := (true, "311e6ac8bf2cf305d71e6d331ab29d2c4c8e563f7c3b7dbdf4bb13278a7bc4e7"), looks := true }, kinds := [], alts := [], laidByText := true, laidKinds := [.data, .data, .data], laidTests := true, laidLooks := .later }
def CircleDrainCardSaid : Prop := Claim7.holds Tryz.pinned (.plain (OpenSpec.ofChange circleDrainSpec)) circleDrainCard

/-- THE SECOND FORM's CARD OF 'garlandlaw25.CircleRight'. -/
def circleRightUptoCard : Claim7 := { stood := { row := circleRightUptoRow, standIns := [], harness := (true, "311e6ac8bf2cf305d71e6d331ab29d2c4c8e563f7c3b7dbdf4bb13278a7bc4e7"), looks := true }, kinds := [], alts := [], laidByText := true, laidKinds := [.data, .data, .data], laidTests := true, laidLooks := .later }
def CircleRightUptoCardSaid : Prop := Claim7.holds Tryz.pinned (.plain (OpenSpec.upto circleRightSpec)) circleRightUptoCard

/-- THE SECOND FORM's CARD OF 'garlandlaw25.CircleDrain'. -/
def circleDrainUptoCard : Claim7 := { stood := { row := circleDrainUptoRow, standIns := [], harness := (true, "311e6ac8bf2cf305d71e6d331ab29d2c4c8e563f7c3b7dbdf4bb13278a7bc4e7"), looks := true }, kinds := [], alts := [], laidByText := true, laidKinds := [.data, .data, .data], laidTests := true, laidLooks := .later }
def CircleDrainUptoCardSaid : Prop := Claim7.holds Tryz.pinned (.plain (OpenSpec.upto circleDrainSpec)) circleDrainUptoCard
end Rows
end Go.Proofs.YtamjpnmjpponpaaGreatDoor
