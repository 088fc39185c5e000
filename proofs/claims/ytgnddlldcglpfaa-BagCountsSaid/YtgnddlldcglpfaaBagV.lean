/- Written by a program (pre.py) from the source of the same name. -/
/- The law BagCounts, as its row states it: every input; true; the input reads as it did. -/
import Derived.Test.YtgnddlldcglpfaaBagT
import Derived.Test.YtgnddlldcglpfaaBagG
set_option linter.unusedSimpArgs false
set_option linter.unusedVariables false
set_option linter.unnecessarySimpa false
namespace Go.Proofs.Ytgnddlldcglpfaa
open Go.Gar

theorem deed_open {e : List D} (h : OkDs [.int .i64, .int .i64, .int .i64, .int .u8, .int .i64, .by, .bool] e) : ∃ g : Deed, e = g.cells := by
  obtain ⟨_, _, rfl, ⟨n, rfl, _⟩, h⟩ := h
  obtain ⟨_, _, rfl, ⟨a, rfl, _⟩, h⟩ := h
  obtain ⟨_, _, rfl, ⟨i, rfl, _⟩, h⟩ := h
  obtain ⟨_, _, rfl, ⟨m, rfl, _⟩, h⟩ := h
  obtain ⟨g, rfl⟩ := gram_open h
  exact ⟨⟨n, a, i, m, g⟩, rfl⟩
theorem par43 {d : D} (h : okPar T.get 43 d) : ∃ l : List Deed, d = deedsD l := by
  obtain ⟨s, hs, h⟩ := h; cases hs
  obtain ⟨es, rfl, _, h⟩ := h
  obtain ⟨l, rfl⟩ := map_open (f := Deed.cells) fun e he => deed_open (h e he)
  exact ⟨l, rfl⟩

set_option maxRecDepth 100000 in
theorem bagCounts_lifted (os : Os) (started : os.Started) (H : Type) (enc : TypeId × Value → H) :
    ReturnsInHanded {} Try.checked os 4 .any (Rows.bagCountsSpec.pre6 enc Try.prog Try.f4 Rows.bagCountsRow.domain false) (Rows.bagCountsSpec.post enc Try.prog Try.f4 false true false false) := by
  refine returnsInHanded_of_change (C := Try.checked) own started (by kernel_rfl) Try.func4
    (ChangeSpec.witness6 (enc := enc) (C := Try.checked) false ⟨#[], #[.slice none 0 0], []⟩ 8 (by kernel_rfl) (by kernel_rfl) (by kernel_rfl) (by kernel_rfl)) ?_
  intro W base args ds gs before hval hW _ _
  refine law_calls (P := Try.prog) (tb := 4) eok laidOut (by kernel_rfl) (by kernel_rfl) (by kernel_rfl) Try.underlying4 rfl ?_ ?_ hval hW
  · intro H ds h
    match ds, h with
    | [d0], _ => rfl
  · intro xs h
    obtain ⟨x0, r, rfl, h0, h⟩ := h
    cases h
    obtain ⟨n0, rfl⟩ := par43 h0
    exact bagCounts_fn n0
theorem bagCounts_holds : Rows.BagCountsSaid :=
  OpenClaim.holds_of_wide 4 Try.f4 rfl rfl rfl rfl rfl rfl rfl ⟨rfl, rfl, rfl, rfl, rfl⟩ rfl rfl rfl rfl rfl (by kernel_rfl) Try.func4 (by kernel_rfl)
    (of_decide_eq_true (by kernel_rfl)) (by unfold Func.isWrapper; first | (rw [if_pos (by decide +kernel)]; kernel_rfl) | (rw [if_neg (by decide +kernel)]; exact ⟨rfl, rfl⟩))
    (fun os started H enc _ => bagCounts_lifted os started H enc)

end Go.Proofs.Ytgnddlldcglpfaa
