/- Written by a program (pre.py) from the source of the same name. -/
/- The law ItemKeys, as its row states it: every input; true; the input reads as it did. -/
import Derived.Test.YtflikcmbbljgeaaItemT
import Derived.Test.YtflikcmbbljgeaaItemD
set_option linter.unusedSimpArgs false
set_option linter.unusedVariables false
set_option linter.unnecessarySimpa false
namespace Go.Proofs.Ytflikcmbbljgeaa
open Go.Gar

set_option maxRecDepth 100000 in
theorem itemKeys_lifted (os : Os) (started : os.Started) (H : Type) (enc : TypeId × Value → H) :
    ReturnsInHanded {} Try.checked os 7 .any (Rows.itemKeysSpec.pre6 enc Try.prog Try.f7 Rows.itemKeysRow.domain false) (Rows.itemKeysSpec.post enc Try.prog Try.f7 false true false false) := by
  refine returnsInHanded_of_change (C := Try.checked) own started (by kernel_rfl) Try.func7
    (ChangeSpec.witness6 (enc := enc) (C := Try.checked) false ⟨#[], #[.slice none 0 0, .string ⟨#[]⟩], []⟩ 8 (by kernel_rfl) (by kernel_rfl) (by kernel_rfl) (by kernel_rfl)) ?_
  intro W base args ds gs before hval hW _ _
  refine law_calls (P := Try.prog) (tb := 4) eok laidOut (by kernel_rfl) (by kernel_rfl) (by kernel_rfl) Try.underlying4 rfl ?_ ?_ hval hW
  · intro H ds h
    match ds, h with
    | [d0, d1], _ => rfl
  · intro xs h
    obtain ⟨x0, r, rfl, h0, h⟩ := h
    obtain ⟨x1, r, rfl, h1, h⟩ := h
    cases h
    obtain ⟨n0, rfl, k0⟩ := par24 h0
    obtain ⟨n1, rfl, _⟩ := par9 h1
    exact itemKeys_fn n0 n1
theorem itemKeys_holds : Rows.ItemKeysSaid :=
  OpenClaim.holds_of_wide 7 Try.f7 rfl rfl rfl rfl rfl rfl rfl ⟨rfl, rfl, rfl, rfl, rfl⟩ rfl rfl rfl rfl rfl (by kernel_rfl) Try.func7 (by kernel_rfl)
    (of_decide_eq_true (by kernel_rfl)) (by unfold Func.isWrapper; first | (rw [if_pos (by decide +kernel)]; kernel_rfl) | (rw [if_neg (by decide +kernel)]; exact ⟨rfl, rfl⟩))
    (fun os started H enc _ => itemKeys_lifted os started H enc)

end Go.Proofs.Ytflikcmbbljgeaa
