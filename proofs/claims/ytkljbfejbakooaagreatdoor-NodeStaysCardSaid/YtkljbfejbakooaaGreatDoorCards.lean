/-
  DERIVED. GIVEN WITH THE SEED: THE CARDS: each row of YtkljbfejbakooaaGreatDoorRows.lean that lists a variable, with what it lists TIED to the program's text (the seventh form; the later family's looks); each row that meets fmt, with fmt's text TOLD by the authors' own Lean function (tested against real Go, not proved from fmt's source: count such statements apart). THE CARD IS WHAT COUNTS. Prove the row's statement (the work); the ties are given (YtkljbfejbakooaaGreatDoorTie.lean); close each card by the builder's one call (the guide's Derived/Test/ToyasCard.lean, 'card_holds'). Laid BY PROGRAM, IN A SANDBOX (cutbox-door.mjs). By AI agents, Wed Nov 11 2026. No macro, syntax, notation, axiom, sorry.
-/
import Derived.Test.YtkljbfejbakooaaGreatDoorRows
import GoSem.ClaimSeven
namespace Go.Proofs.YtkljbfejbakooaaGreatDoor
namespace Rows

/-- THE TIED CARD OF 'garlandlaw24.NodeStays'. -/
def nodeStaysCard : Claim7 := { stood := { row := nodeStaysRow, standIns := [], harness := (true, "a68599acc282768e6e8f77e0f7fd9046a176a9a73dd694364f45cf2936ceb864"), looks := true }, kinds := [], alts := [], laidByText := true, laidKinds := [.data, .data, .data], laidTests := true, laidLooks := .later }
def NodeStaysCardSaid : Prop := Claim7.holds Tryz.pinned (.plain (OpenSpec.ofChange nodeStaysSpec)) nodeStaysCard

/-- THE TIED CARD OF 'garlandlaw24.NodeBad'. -/
def nodeBadCard : Claim7 := { stood := { row := nodeBadRow, standIns := [], harness := (true, "a68599acc282768e6e8f77e0f7fd9046a176a9a73dd694364f45cf2936ceb864"), looks := true }, kinds := [], alts := [], laidByText := true, laidKinds := [.data, .data, .data], laidTests := true, laidLooks := .later }
def NodeBadCardSaid : Prop := Claim7.holds Tryz.pinned (.plain (OpenSpec.ofChange nodeBadSpec)) nodeBadCard

/-- THE TIED CARD OF 'garlandlaw24.NodeTwice'. -/
def nodeTwiceCard : Claim7 := { stood := { row := nodeTwiceRow, standIns := [], harness := (true, "a68599acc282768e6e8f77e0f7fd9046a176a9a73dd694364f45cf2936ceb864"), looks := true }, kinds := [], alts := [], laidByText := true, laidKinds := [.data, .data, .data], laidTests := true, laidLooks := .later }
def NodeTwiceCardSaid : Prop := Claim7.holds Tryz.pinned (.plain (OpenSpec.ofChange nodeTwiceSpec)) nodeTwiceCard

/-- THE TIED CARD OF 'garlandlaw24.NodeSkips'. -/
def nodeSkipsCard : Claim7 := { stood := { row := nodeSkipsRow, standIns := [], harness := (true, "a68599acc282768e6e8f77e0f7fd9046a176a9a73dd694364f45cf2936ceb864"), looks := true }, kinds := [], alts := [], laidByText := true, laidKinds := [.data, .data, .data], laidTests := true, laidLooks := .later }
def NodeSkipsCardSaid : Prop := Claim7.holds Tryz.pinned (.plain (OpenSpec.ofChange nodeSkipsSpec)) nodeSkipsCard

/-- THE TIED CARD OF 'garlandlaw24.NodeClient'. -/
def nodeClientCard : Claim7 := { stood := { row := nodeClientRow, standIns := [], harness := (true, "a68599acc282768e6e8f77e0f7fd9046a176a9a73dd694364f45cf2936ceb864"), looks := true }, kinds := [], alts := [], laidByText := true, laidKinds := [.data, .data, .data], laidTests := true, laidLooks := .later }
def NodeClientCardSaid : Prop := Claim7.holds Tryz.pinned (.plain (OpenSpec.ofChange nodeClientSpec)) nodeClientCard

/-- THE SECOND FORM's CARD OF 'garlandlaw24.NodeStays'. -/
def nodeStaysUptoCard : Claim7 := { stood := { row := nodeStaysUptoRow, standIns := [], harness := (true, "a68599acc282768e6e8f77e0f7fd9046a176a9a73dd694364f45cf2936ceb864"), looks := true }, kinds := [], alts := [], laidByText := true, laidKinds := [.data, .data, .data], laidTests := true, laidLooks := .later }
def NodeStaysUptoCardSaid : Prop := Claim7.holds Tryz.pinned (.plain (OpenSpec.upto nodeStaysSpec)) nodeStaysUptoCard

/-- THE SECOND FORM's CARD OF 'garlandlaw24.NodeBad'. -/
def nodeBadUptoCard : Claim7 := { stood := { row := nodeBadUptoRow, standIns := [], harness := (true, "a68599acc282768e6e8f77e0f7fd9046a176a9a73dd694364f45cf2936ceb864"), looks := true }, kinds := [], alts := [], laidByText := true, laidKinds := [.data, .data, .data], laidTests := true, laidLooks := .later }
def NodeBadUptoCardSaid : Prop := Claim7.holds Tryz.pinned (.plain (OpenSpec.upto nodeBadSpec)) nodeBadUptoCard

/-- THE SECOND FORM's CARD OF 'garlandlaw24.NodeTwice'. -/
def nodeTwiceUptoCard : Claim7 := { stood := { row := nodeTwiceUptoRow, standIns := [], harness := (true, "a68599acc282768e6e8f77e0f7fd9046a176a9a73dd694364f45cf2936ceb864"), looks := true }, kinds := [], alts := [], laidByText := true, laidKinds := [.data, .data, .data], laidTests := true, laidLooks := .later }
def NodeTwiceUptoCardSaid : Prop := Claim7.holds Tryz.pinned (.plain (OpenSpec.upto nodeTwiceSpec)) nodeTwiceUptoCard

/-- THE SECOND FORM's CARD OF 'garlandlaw24.NodeSkips'. -/
def nodeSkipsUptoCard : Claim7 := { stood := { row := nodeSkipsUptoRow, standIns := [], harness := (true, "a68599acc282768e6e8f77e0f7fd9046a176a9a73dd694364f45cf2936ceb864"), looks := true }, kinds := [], alts := [], laidByText := true, laidKinds := [.data, .data, .data], laidTests := true, laidLooks := .later }
def NodeSkipsUptoCardSaid : Prop := Claim7.holds Tryz.pinned (.plain (OpenSpec.upto nodeSkipsSpec)) nodeSkipsUptoCard

/-- THE SECOND FORM's CARD OF 'garlandlaw24.NodeClient'. -/
def nodeClientUptoCard : Claim7 := { stood := { row := nodeClientUptoRow, standIns := [], harness := (true, "a68599acc282768e6e8f77e0f7fd9046a176a9a73dd694364f45cf2936ceb864"), looks := true }, kinds := [], alts := [], laidByText := true, laidKinds := [.data, .data, .data], laidTests := true, laidLooks := .later }
def NodeClientUptoCardSaid : Prop := Claim7.holds Tryz.pinned (.plain (OpenSpec.upto nodeClientSpec)) nodeClientUptoCard
end Rows
end Go.Proofs.YtkljbfejbakooaaGreatDoor
