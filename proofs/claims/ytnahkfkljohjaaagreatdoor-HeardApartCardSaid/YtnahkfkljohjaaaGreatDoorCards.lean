/-
  DERIVED. GIVEN WITH THE SEED: THE CARDS: each row of YtnahkfkljohjaaaGreatDoorRows.lean that lists a variable, with what it lists TIED to the program's text (the seventh form; the later family's looks); each row that meets fmt, with fmt's text TOLD by the authors' own Lean function (tested against real Go, not proved from fmt's source: count such statements apart). THE CARD IS WHAT COUNTS. Prove the row's statement (the work); the ties are given (YtnahkfkljohjaaaGreatDoorTie.lean); close each card by the builder's one call (the guide's Derived/Test/ToyasCard.lean, 'card_holds'). Laid BY PROGRAM, IN A SANDBOX (cutbox-door.mjs). By AI agents, Wed Nov 11 2026. No macro, syntax, notation, axiom, sorry.
-/
import Derived.Test.YtnahkfkljohjaaaGreatDoorRows
import GoSem.ClaimSeven
namespace Go.Proofs.YtnahkfkljohjaaaGreatDoor
namespace Rows

/-- THE TIED CARD OF 'garlandlaw23.HeardSkips'. -/
def heardSkipsCard : Claim7 := { stood := { row := heardSkipsRow, standIns := [], harness := (true, "6c833bab352f2642f8557750716600bc71f12151d392884a94b2f3db1e47b16e"), looks := false }, kinds := [], alts := [], laidByText := true, laidKinds := [.data, .data], laidTests := true, laidLooks := .later }
def HeardSkipsCardSaid : Prop := Claim7.holds Tryz.pinned (.plain (OpenSpec.ofChange heardSkipsSpec)) heardSkipsCard

/-- THE TIED CARD OF 'garlandlaw23.HeardKeeps'. -/
def heardKeepsCard : Claim7 := { stood := { row := heardKeepsRow, standIns := [], harness := (true, "6c833bab352f2642f8557750716600bc71f12151d392884a94b2f3db1e47b16e"), looks := false }, kinds := [], alts := [], laidByText := true, laidKinds := [.data, .data], laidTests := true, laidLooks := .later }
def HeardKeepsCardSaid : Prop := Claim7.holds Tryz.pinned (.plain (OpenSpec.ofChange heardKeepsSpec)) heardKeepsCard

/-- THE TIED CARD OF 'garlandlaw23.HeardApart'. -/
def heardApartCard : Claim7 := { stood := { row := heardApartRow, standIns := [], harness := (true, "6c833bab352f2642f8557750716600bc71f12151d392884a94b2f3db1e47b16e"), looks := false }, kinds := [], alts := [], laidByText := true, laidKinds := [.data, .data], laidTests := true, laidLooks := .later }
def HeardApartCardSaid : Prop := Claim7.holds Tryz.pinned (.plain (OpenSpec.ofChange heardApartSpec)) heardApartCard

/-- THE TIED CARD OF 'garlandlaw23.HeardFingers'. -/
def heardFingersCard : Claim7 := { stood := { row := heardFingersRow, standIns := [], harness := (true, "6c833bab352f2642f8557750716600bc71f12151d392884a94b2f3db1e47b16e"), looks := false }, kinds := [], alts := [], laidByText := true, laidKinds := [.data, .data], laidTests := true, laidLooks := .later }
def HeardFingersCardSaid : Prop := Claim7.holds Tryz.pinned (.plain (OpenSpec.ofChange heardFingersSpec)) heardFingersCard

/-- THE SECOND FORM's CARD OF 'garlandlaw23.HeardSkips'. -/
def heardSkipsUptoCard : Claim7 := { stood := { row := heardSkipsUptoRow, standIns := [], harness := (true, "6c833bab352f2642f8557750716600bc71f12151d392884a94b2f3db1e47b16e"), looks := false }, kinds := [], alts := [], laidByText := true, laidKinds := [.data, .data], laidTests := true, laidLooks := .later }
def HeardSkipsUptoCardSaid : Prop := Claim7.holds Tryz.pinned (.plain (OpenSpec.upto heardSkipsSpec)) heardSkipsUptoCard

/-- THE SECOND FORM's CARD OF 'garlandlaw23.HeardKeeps'. -/
def heardKeepsUptoCard : Claim7 := { stood := { row := heardKeepsUptoRow, standIns := [], harness := (true, "6c833bab352f2642f8557750716600bc71f12151d392884a94b2f3db1e47b16e"), looks := false }, kinds := [], alts := [], laidByText := true, laidKinds := [.data, .data], laidTests := true, laidLooks := .later }
def HeardKeepsUptoCardSaid : Prop := Claim7.holds Tryz.pinned (.plain (OpenSpec.upto heardKeepsSpec)) heardKeepsUptoCard

/-- THE SECOND FORM's CARD OF 'garlandlaw23.HeardApart'. -/
def heardApartUptoCard : Claim7 := { stood := { row := heardApartUptoRow, standIns := [], harness := (true, "6c833bab352f2642f8557750716600bc71f12151d392884a94b2f3db1e47b16e"), looks := false }, kinds := [], alts := [], laidByText := true, laidKinds := [.data, .data], laidTests := true, laidLooks := .later }
def HeardApartUptoCardSaid : Prop := Claim7.holds Tryz.pinned (.plain (OpenSpec.upto heardApartSpec)) heardApartUptoCard

/-- THE SECOND FORM's CARD OF 'garlandlaw23.HeardFingers'. -/
def heardFingersUptoCard : Claim7 := { stood := { row := heardFingersUptoRow, standIns := [], harness := (true, "6c833bab352f2642f8557750716600bc71f12151d392884a94b2f3db1e47b16e"), looks := false }, kinds := [], alts := [], laidByText := true, laidKinds := [.data, .data], laidTests := true, laidLooks := .later }
def HeardFingersUptoCardSaid : Prop := Claim7.holds Tryz.pinned (.plain (OpenSpec.upto heardFingersSpec)) heardFingersUptoCard
end Rows
end Go.Proofs.YtnahkfkljohjaaaGreatDoor
