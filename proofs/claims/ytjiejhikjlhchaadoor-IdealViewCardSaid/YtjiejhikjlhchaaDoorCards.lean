/-
  DERIVED. GIVEN WITH THE SEED: THE CARDS: each row of YtjiejhikjlhchaaDoorRows.lean that lists a variable, with what it lists TIED to the program's text (the seventh form; the later family's looks); each row that meets fmt, with fmt's text TOLD by the authors' own Lean function (tested against real Go, not proved from fmt's source: count such statements apart). THE CARD IS WHAT COUNTS. Prove the row's statement (the work); the ties are given (YtjiejhikjlhchaaDoorTie.lean); close each card by the builder's one call (the guide's Derived/Test/ToyasCard.lean, 'card_holds'). Laid BY PROGRAM, IN A SANDBOX (cutbox-door.mjs). By AI agents, Wed Nov 11 2026. No macro, syntax, notation, axiom, sorry.
-/
import Derived.Test.YtjiejhikjlhchaaDoorRows
import GoSem.ClaimSeven
namespace Go.Proofs.YtjiejhikjlhchaaDoor
namespace Rows

/-- THE TIED CARD OF 'garlandlaw26.IdealTells'. -/
def idealTellsCard : Claim7 := { stood := { row := idealTellsRow, standIns := [], harness := (true, "5cf378d4bf3b7018d628b34f3d8eb65487fb22262a0bf492e251f752f4865402"), looks := false }, kinds := [], alts := [], laidByText := true, laidKinds := [.data], laidTests := true, laidLooks := .later }
def IdealTellsCardSaid : Prop := Claim7.holds Tryd.pinned (.plain (OpenSpec.ofChange idealTellsSpec)) idealTellsCard

/-- THE TIED CARD OF 'garlandlaw26.IdealRing'. -/
def idealRingCard : Claim7 := { stood := { row := idealRingRow, standIns := [], harness := (true, "5cf378d4bf3b7018d628b34f3d8eb65487fb22262a0bf492e251f752f4865402"), looks := false }, kinds := [], alts := [], laidByText := true, laidKinds := [.data], laidTests := true, laidLooks := .later }
def IdealRingCardSaid : Prop := Claim7.holds Tryd.pinned (.plain (OpenSpec.ofChange idealRingSpec)) idealRingCard

/-- THE TIED CARD OF 'garlandlaw26.IdealOwner'. -/
def idealOwnerCard : Claim7 := { stood := { row := idealOwnerRow, standIns := [], harness := (true, "5cf378d4bf3b7018d628b34f3d8eb65487fb22262a0bf492e251f752f4865402"), looks := false }, kinds := [], alts := [], laidByText := true, laidKinds := [.data], laidTests := true, laidLooks := .later }
def IdealOwnerCardSaid : Prop := Claim7.holds Tryd.pinned (.plain (OpenSpec.ofChange idealOwnerSpec)) idealOwnerCard

/-- THE TIED CARD OF 'garlandlaw26.IdealView'. -/
def idealViewCard : Claim7 := { stood := { row := idealViewRow, standIns := [], harness := (true, "5cf378d4bf3b7018d628b34f3d8eb65487fb22262a0bf492e251f752f4865402"), looks := false }, kinds := [], alts := [], laidByText := true, laidKinds := [.data], laidTests := true, laidLooks := .later }
def IdealViewCardSaid : Prop := Claim7.holds Tryd.pinned (.plain (OpenSpec.ofChange idealViewSpec)) idealViewCard

/-- THE TIED CARD OF 'garlandlaw26.IdealMore'. -/
def idealMoreCard : Claim7 := { stood := { row := idealMoreRow, standIns := [], harness := (true, "5cf378d4bf3b7018d628b34f3d8eb65487fb22262a0bf492e251f752f4865402"), looks := false }, kinds := [], alts := [], laidByText := true, laidKinds := [.data], laidTests := true, laidLooks := .later }
def IdealMoreCardSaid : Prop := Claim7.holds Tryd.pinned (.plain (OpenSpec.ofChange idealMoreSpec)) idealMoreCard

/-- THE SECOND FORM's CARD OF 'garlandlaw26.IdealTells'. -/
def idealTellsUptoCard : Claim7 := { stood := { row := idealTellsUptoRow, standIns := [], harness := (true, "5cf378d4bf3b7018d628b34f3d8eb65487fb22262a0bf492e251f752f4865402"), looks := false }, kinds := [], alts := [], laidByText := true, laidKinds := [.data], laidTests := true, laidLooks := .later }
def IdealTellsUptoCardSaid : Prop := Claim7.holds Tryd.pinned (.plain (OpenSpec.upto idealTellsSpec)) idealTellsUptoCard

/-- THE SECOND FORM's CARD OF 'garlandlaw26.IdealRing'. -/
def idealRingUptoCard : Claim7 := { stood := { row := idealRingUptoRow, standIns := [], harness := (true, "5cf378d4bf3b7018d628b34f3d8eb65487fb22262a0bf492e251f752f4865402"), looks := false }, kinds := [], alts := [], laidByText := true, laidKinds := [.data], laidTests := true, laidLooks := .later }
def IdealRingUptoCardSaid : Prop := Claim7.holds Tryd.pinned (.plain (OpenSpec.upto idealRingSpec)) idealRingUptoCard

/-- THE SECOND FORM's CARD OF 'garlandlaw26.IdealOwner'. -/
def idealOwnerUptoCard : Claim7 := { stood := { row := idealOwnerUptoRow, standIns := [], harness := (true, "5cf378d4bf3b7018d628b34f3d8eb65487fb22262a0bf492e251f752f4865402"), looks := false }, kinds := [], alts := [], laidByText := true, laidKinds := [.data], laidTests := true, laidLooks := .later }
def IdealOwnerUptoCardSaid : Prop := Claim7.holds Tryd.pinned (.plain (OpenSpec.upto idealOwnerSpec)) idealOwnerUptoCard

/-- THE SECOND FORM's CARD OF 'garlandlaw26.IdealView'. -/
def idealViewUptoCard : Claim7 := { stood := { row := idealViewUptoRow, standIns := [], harness := (true, "5cf378d4bf3b7018d628b34f3d8eb65487fb22262a0bf492e251f752f4865402"), looks := false }, kinds := [], alts := [], laidByText := true, laidKinds := [.data], laidTests := true, laidLooks := .later }
def IdealViewUptoCardSaid : Prop := Claim7.holds Tryd.pinned (.plain (OpenSpec.upto idealViewSpec)) idealViewUptoCard

/-- THE SECOND FORM's CARD OF 'garlandlaw26.IdealMore'. -/
def idealMoreUptoCard : Claim7 := { stood := { row := idealMoreUptoRow, standIns := [], harness := (true, "5cf378d4bf3b7018d628b34f3d8eb65487fb22262a0bf492e251f752f4865402"), looks := false }, kinds := [], alts := [], laidByText := true, laidKinds := [.data], laidTests := true, laidLooks := .later }
def IdealMoreUptoCardSaid : Prop := Claim7.holds Tryd.pinned (.plain (OpenSpec.upto idealMoreSpec)) idealMoreUptoCard
end Rows
end Go.Proofs.YtjiejhikjlhchaaDoor
