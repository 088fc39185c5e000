/- Written by a program (pre.py) from the source of the same name. -/
/- The law WireTells, as its row states it: every input; true; the input reads as it did. -/
import Derived.Test.YtbpemnmpcljbpaaGreatWire2F
import Derived.Test.YtbpemnmpcljbpaaGreatWire3F
set_option linter.unusedSimpArgs false
set_option linter.unusedVariables false
set_option linter.unnecessarySimpa false
namespace Go.Proofs.YtbpemnmpcljbpaaGreat
open Go.Gar

set_option maxRecDepth 100000 in
theorem wireTells_lifted (os : Os) (started : os.Started) (H : Type) (enc : TypeId × Value → H) :
    ReturnsInHanded {} Tryz.checked os 3 .any (Rows.wireTellsSpec.pre6 enc Tryz.prog Tryz.f3 Rows.wireTellsRow.domain false) (Rows.wireTellsSpec.post enc Tryz.prog Tryz.f3 false true false false) := by
  refine returnsInHanded_of_change (C := Tryz.checked) own started (by kernel_rfl) Tryz.func3
    (ChangeSpec.witness6 (enc := enc) (C := Tryz.checked) false ⟨#[], #[.agg #[.int .u8 0, .int .i64 0, .int .i64 0, .int .i64 0, .int .i64 0, .bool false, .bool false, .int .i64 0, .int .i64 0, .slice none 0 0, .string ⟨#[]⟩, .int .i64 0, .int .i64 0, .bool false, .int .i64 0], .slice none 0 0], []⟩ 8 (by kernel_rfl) (by kernel_rfl) (by kernel_rfl) (by kernel_rfl)) ?_
  intro W base args ds gs before hval hW _ _
  refine law_calls (P := Tryz.prog) (tb := 4) eok laidOut (by kernel_rfl) (by kernel_rfl) (by kernel_rfl) Tryz.underlying4 rfl ?_ ?_ hval hW
  · intro H ds h
    match ds, h with
    | [d0, d1], _ => rfl
  · intro xs h
    obtain ⟨x0, r, rfl, h0, h⟩ := h
    obtain ⟨x1, r, rfl, h1, h⟩ := h
    cases h
    obtain ⟨n0, rfl, k0⟩ := parMsg h0
    obtain ⟨n1, rfl, k1⟩ := parBy h1
    exact Wi.tells_any n0 n1
theorem wireTells_holds : Rows.WireTellsSaid :=
  OpenClaim.holds_of_wide 3 Tryz.f3 rfl rfl rfl rfl rfl rfl rfl ⟨rfl, rfl, rfl, rfl, rfl⟩ rfl rfl rfl rfl rfl (by kernel_rfl) Tryz.func3 (by kernel_rfl)
    (of_decide_eq_true (by kernel_rfl)) (by unfold Func.isWrapper; first | (rw [if_pos (by decide +kernel)]; kernel_rfl) | (rw [if_neg (by decide +kernel)]; exact ⟨rfl, rfl⟩))
    (fun os started H enc _ => wireTells_lifted os started H enc)

end Go.Proofs.YtbpemnmpcljbpaaGreat
