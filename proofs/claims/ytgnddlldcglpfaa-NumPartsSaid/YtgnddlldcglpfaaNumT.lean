/- Written by a program (pre.py) from the source of the same name. -/
/- The laws NumTells, NumBack, NumTexts, as their rows state them: every input; true; the input reads as it did. -/
import Derived.Test.YtgnddlldcglpfaaNumB
set_option linter.unusedSimpArgs false
set_option linter.unusedVariables false
set_option linter.unnecessarySimpa false
namespace Go.Proofs.Ytgnddlldcglpfaa
open Go.Gar

theorem par9 {d : D} (h : okPar T.get 9 d) : ∃ l, d = .s l ∧ l.length ≤ maxLen := by
  obtain ⟨s, hs, h⟩ := h; cases hs; exact h
theorem par39 {d : D} (h : okPar T.get 39 d) : ∃ l, d = .is l ∧ l.length ≤ maxLen ∧ ∀ n ∈ l, (Lit.int .i64 n).wf = true := by
  obtain ⟨s, hs, h⟩ := h; cases hs; exact h
theorem par27 {d : D} (h : okPar T.get 27 d) : ∃ l, d = .by l ∧ l.length ≤ maxLen := by
  obtain ⟨s, hs, h⟩ := h; cases hs; exact h

set_option maxRecDepth 100000 in
theorem tells_lifted (os : Os) (started : os.Started) (H : Type) (enc : TypeId × Value → H) :
    ReturnsInHanded {} Try.checked os 8 .any (Rows.numTellsSpec.pre6 enc Try.prog Try.f8 Rows.numTellsRow.domain false) (Rows.numTellsSpec.post enc Try.prog Try.f8 false true false false) := by
  refine returnsInHanded_of_change (C := Try.checked) own started (by kernel_rfl) Try.func8
    (ChangeSpec.witness6 (enc := enc) (C := Try.checked) false ⟨#[], #[.int .i64 0, .string ⟨#[]⟩, .slice none 0 0, .slice none 0 0], []⟩ 8 (by kernel_rfl) (by kernel_rfl) (by kernel_rfl) (by kernel_rfl)) ?_
  intro W base args ds gs before hval hW _ _
  refine law_calls (P := Try.prog) (tb := 4) eok laidOut (by kernel_rfl) (by kernel_rfl) (by kernel_rfl) Try.underlying4 rfl ?_ ?_ hval hW
  · intro H ds h
    match ds, h with
    | [d0, d1, d2, d3], _ => rfl
  · intro xs h
    obtain ⟨x0, r, rfl, h0, h⟩ := h
    obtain ⟨x1, r, rfl, h1, h⟩ := h
    obtain ⟨x2, r, rfl, h2, h⟩ := h
    obtain ⟨x3, r, rfl, h3, h⟩ := h
    cases h
    obtain ⟨n0, rfl, _⟩ := par3 h0
    obtain ⟨n1, rfl, _⟩ := par9 h1
    obtain ⟨n2, rfl, _⟩ := par39 h2
    obtain ⟨n3, rfl, _⟩ := par27 h3
    exact tells_fn n0 n1 n2 n3
theorem tells_holds : Rows.NumTellsSaid :=
  OpenClaim.holds_of_wide 8 Try.f8 rfl rfl rfl rfl rfl rfl rfl ⟨rfl, rfl, rfl, rfl, rfl⟩ rfl rfl rfl rfl rfl (by kernel_rfl) Try.func8 (by kernel_rfl)
    (of_decide_eq_true (by kernel_rfl)) (by unfold Func.isWrapper; first | (rw [if_pos (by decide +kernel)]; kernel_rfl) | (rw [if_neg (by decide +kernel)]; exact ⟨rfl, rfl⟩))
    (fun os started H enc _ => tells_lifted os started H enc)

set_option maxRecDepth 100000 in
theorem back_lifted (os : Os) (started : os.Started) (H : Type) (enc : TypeId × Value → H) :
    ReturnsInHanded {} Try.checked os 9 .any (Rows.numBackSpec.pre6 enc Try.prog Try.f9 Rows.numBackRow.domain false) (Rows.numBackSpec.post enc Try.prog Try.f9 false true false false) := by
  refine returnsInHanded_of_change (C := Try.checked) own started (by kernel_rfl) Try.func9
    (ChangeSpec.witness6 (enc := enc) (C := Try.checked) false ⟨#[], #[.int .i64 0, .int .i64 0, .slice none 0 0], []⟩ 8 (by kernel_rfl) (by kernel_rfl) (by kernel_rfl) (by kernel_rfl)) ?_
  intro W base args ds gs before hval hW _ _
  refine law_calls (P := Try.prog) (tb := 4) eok laidOut (by kernel_rfl) (by kernel_rfl) (by kernel_rfl) Try.underlying4 rfl ?_ ?_ hval hW
  · intro H ds h
    match ds, h with
    | [d0, d1, d2], _ => rfl
  · intro xs h
    obtain ⟨x0, r, rfl, h0, h⟩ := h
    obtain ⟨x1, r, rfl, h1, h⟩ := h
    obtain ⟨x2, r, rfl, h2, h⟩ := h
    cases h
    obtain ⟨n0, rfl, _⟩ := par3 h0
    obtain ⟨n1, rfl, _⟩ := par3 h1
    obtain ⟨n2, rfl, _⟩ := par27 h2
    exact back_fn n0 n1 n2
theorem back_holds : Rows.NumBackSaid :=
  OpenClaim.holds_of_wide 9 Try.f9 rfl rfl rfl rfl rfl rfl rfl ⟨rfl, rfl, rfl, rfl, rfl⟩ rfl rfl rfl rfl rfl (by kernel_rfl) Try.func9 (by kernel_rfl)
    (of_decide_eq_true (by kernel_rfl)) (by unfold Func.isWrapper; first | (rw [if_pos (by decide +kernel)]; kernel_rfl) | (rw [if_neg (by decide +kernel)]; exact ⟨rfl, rfl⟩))
    (fun os started H enc _ => back_lifted os started H enc)

set_option maxRecDepth 100000 in
theorem texts_lifted (os : Os) (started : os.Started) (H : Type) (enc : TypeId × Value → H) :
    ReturnsInHanded {} Try.checked os 10 .any (Rows.numTextsSpec.pre6 enc Try.prog Try.f10 Rows.numTextsRow.domain false) (Rows.numTextsSpec.post enc Try.prog Try.f10 false true false false) := by
  refine returnsInHanded_of_change (C := Try.checked) own started (by kernel_rfl) Try.func10
    (ChangeSpec.witness6 (enc := enc) (C := Try.checked) false ⟨#[], #[.string ⟨#[]⟩, .slice none 0 0, .slice none 0 0], []⟩ 8 (by kernel_rfl) (by kernel_rfl) (by kernel_rfl) (by kernel_rfl)) ?_
  intro W base args ds gs before hval hW _ _
  refine law_calls (P := Try.prog) (tb := 4) eok laidOut (by kernel_rfl) (by kernel_rfl) (by kernel_rfl) Try.underlying4 rfl ?_ ?_ hval hW
  · intro H ds h
    match ds, h with
    | [d0, d1, d2], _ => rfl
  · intro xs h
    obtain ⟨x0, r, rfl, h0, h⟩ := h
    obtain ⟨x1, r, rfl, h1, h⟩ := h
    obtain ⟨x2, r, rfl, h2, h⟩ := h
    cases h
    obtain ⟨n0, rfl, _⟩ := par9 h0
    obtain ⟨n1, rfl, _⟩ := par39 h1
    obtain ⟨n2, rfl, _⟩ := par27 h2
    exact texts_fn n0 n1 n2
theorem texts_holds : Rows.NumTextsSaid :=
  OpenClaim.holds_of_wide 10 Try.f10 rfl rfl rfl rfl rfl rfl rfl ⟨rfl, rfl, rfl, rfl, rfl⟩ rfl rfl rfl rfl rfl (by kernel_rfl) Try.func10 (by kernel_rfl)
    (of_decide_eq_true (by kernel_rfl)) (by unfold Func.isWrapper; first | (rw [if_pos (by decide +kernel)]; kernel_rfl) | (rw [if_neg (by decide +kernel)]; exact ⟨rfl, rfl⟩))
    (fun os started H enc _ => texts_lifted os started H enc)

end Go.Proofs.Ytgnddlldcglpfaa
