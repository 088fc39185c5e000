/- Written by a program (pre.py) from the source of the same name. -/
/- The law WirePayloads, as its row states it: every input; true; the input reads as it did. -/
import Derived.Test.YtbpemnmpcljbpaaWire2F
import Derived.Test.YtbpemnmpcljbpaaWire2C
set_option linter.unusedSimpArgs false
set_option linter.unusedVariables false
set_option linter.unnecessarySimpa false
namespace Go.Proofs.Ytbpemnmpcljbpaa
open Go.Gar

set_option maxRecDepth 100000 in
theorem wirePayloads_lifted (os : Os) (started : os.Started) (H : Type) (enc : TypeId × Value → H) :
    ReturnsInHanded {} Try.checked os 5 .any (Rows.wirePayloadsSpec.pre6 enc Try.prog Try.f5 Rows.wirePayloadsRow.domain false) (Rows.wirePayloadsSpec.post enc Try.prog Try.f5 false true false false) := by
  refine returnsInHanded_of_change (C := Try.checked) own started (by kernel_rfl) Try.func5
    (ChangeSpec.witness6 (enc := enc) (C := Try.checked) false ⟨#[], #[.slice none 0 0], []⟩ 8 (by kernel_rfl) (by kernel_rfl) (by kernel_rfl) (by kernel_rfl)) ?_
  intro W base args ds gs before hval hW _ _
  refine law_calls (P := Try.prog) (tb := 4) eok laidOut (by kernel_rfl) (by kernel_rfl) (by kernel_rfl) Try.underlying4 rfl ?_ ?_ hval hW
  · intro H ds h
    match ds, h with
    | [d0], _ => rfl
  · intro xs h
    obtain ⟨x0, r, rfl, h0, h⟩ := h
    cases h
    obtain ⟨n0, rfl, k0⟩ := parBy h0
    exact Wi.payloads_fn n0
theorem wirePayloads_holds : Rows.WirePayloadsSaid :=
  OpenClaim.holds_of_wide 5 Try.f5 rfl rfl rfl rfl rfl rfl rfl ⟨rfl, rfl, rfl, rfl, rfl⟩ rfl rfl rfl rfl rfl (by kernel_rfl) Try.func5 (by kernel_rfl)
    (of_decide_eq_true (by kernel_rfl)) (by unfold Func.isWrapper; first | (rw [if_pos (by decide +kernel)]; kernel_rfl) | (rw [if_neg (by decide +kernel)]; exact ⟨rfl, rfl⟩))
    (fun os started H enc _ => wirePayloads_lifted os started H enc)

end Go.Proofs.Ytbpemnmpcljbpaa
