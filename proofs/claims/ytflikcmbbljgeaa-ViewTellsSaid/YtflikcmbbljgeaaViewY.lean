/- Written by a program (pre.py) from the source of the same name. -/
/- The law ViewTells, as its row states it: every input; true; the input reads as it did. -/
import Derived.Test.YtflikcmbbljgeaaViewT
import Derived.Test.YtflikcmbbljgeaaViewN
set_option linter.unusedSimpArgs false
set_option linter.unusedVariables false
set_option linter.unnecessarySimpa false
namespace Go.Proofs.Ytflikcmbbljgeaa
open Go.Gar

set_option maxRecDepth 100000 in
theorem viewTells_lifted (os : Os) (started : os.Started) (H : Type) (enc : TypeId × Value → H) :
    ReturnsInHanded {} Try.checked os 8 .any (Rows.viewTellsSpec.pre6 enc Try.prog Try.f8 Rows.viewTellsRow.domain false) (Rows.viewTellsSpec.post enc Try.prog Try.f8 false true false false) := by
  refine returnsInHanded_of_change (C := Try.checked) own started (by kernel_rfl) Try.func8
    (ChangeSpec.witness6 (enc := enc) (C := Try.checked) false ⟨#[], #[.agg #[.int .i64 0, .slice none 0 0, .slice none 0 0, .int .i64 0, .int .i64 0, .int .i64 0, .int .i64 0, .int .i64 0, .int .i64 0, .int .i64 0, .int .i64 0, .int .i64 0, .int .i64 0, .int .i64 0, .int .i64 0, .int .i64 0, .int .i64 0, .int .i64 0, .int .i64 0, .int .i64 0], .agg #[.int .i64 0, .slice none 0 0, .slice none 0 0, .int .i64 0, .int .i64 0, .int .i64 0, .int .i64 0, .int .i64 0, .int .i64 0, .int .i64 0, .int .i64 0, .int .i64 0, .int .i64 0, .int .i64 0, .int .i64 0, .int .i64 0, .int .i64 0, .int .i64 0, .int .i64 0, .int .i64 0], .int .i64 0, .int .i64 0, .slice none 0 0, .slice none 0 0], []⟩ 8 (by kernel_rfl) (by kernel_rfl) (by kernel_rfl) (by kernel_rfl)) ?_
  intro W base args ds gs before hval hW _ _
  refine law_calls (P := Try.prog) (tb := 4) eok laidOut (by kernel_rfl) (by kernel_rfl) (by kernel_rfl) Try.underlying4 rfl ?_ ?_ hval hW
  · intro H ds h
    match ds, h with
    | [d0, d1, d2, d3, d4, d5], _ => rfl
  · intro xs h
    obtain ⟨x0, r, rfl, h0, h⟩ := h
    obtain ⟨x1, r, rfl, h1, h⟩ := h
    obtain ⟨x2, r, rfl, h2, h⟩ := h
    obtain ⟨x3, r, rfl, h3, h⟩ := h
    obtain ⟨x4, r, rfl, h4, h⟩ := h
    obtain ⟨x5, r, rfl, h5, h⟩ := h
    cases h
    obtain ⟨n0, rfl, ki0, kb0, kl0, lb0, ll0⟩ := par43 h0
    obtain ⟨n1, rfl, ki1, kb1, kl1, lb1, ll1⟩ := par43 h1
    obtain ⟨n2, rfl, k2⟩ := par3 h2
    obtain ⟨n3, rfl, k3⟩ := par3 h3
    obtain ⟨n4, rfl, k4⟩ := par40 h4
    obtain ⟨n5, rfl, k5⟩ := par40 h5
    exact viewTells_fn n0 n1 n2 n3 n4 n5 ki0 kl0 k2 k5
theorem viewTells_holds : Rows.ViewTellsSaid :=
  OpenClaim.holds_of_wide 8 Try.f8 rfl rfl rfl rfl rfl rfl rfl ⟨rfl, rfl, rfl, rfl, rfl⟩ rfl rfl rfl rfl rfl (by kernel_rfl) Try.func8 (by kernel_rfl)
    (of_decide_eq_true (by kernel_rfl)) (by unfold Func.isWrapper; first | (rw [if_pos (by decide +kernel)]; kernel_rfl) | (rw [if_neg (by decide +kernel)]; exact ⟨rfl, rfl⟩))
    (fun os started H enc _ => viewTells_lifted os started H enc)

end Go.Proofs.Ytflikcmbbljgeaa
