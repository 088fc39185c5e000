/- Written by a program (pre.py) from the source of the same name. -/
/- Bags: the law on whom they are for. -/
import Derived.Test.YtgnddlldcglpfaaBag9
set_option linter.unusedSimpArgs false
set_option linter.unusedVariables false
set_option linter.unnecessarySimpa false
namespace Go.Proofs.Ytgnddlldcglpfaa
open Go.Gar
set_option maxRecDepth 4000

theorem great_no {b : Bag} (h : b.great = false) : b.grams.length ≤ 420 ∧ small b.grams := by
  simp only [Bag.great, Bool.or_eq_false_iff, decide_eq_false_iff_not] at h
  refine ⟨by omega, fun g hg => ?_⟩
  have h1 := h.1
  rw [List.take_of_length_le (by omega), List.any_eq_false] at h1
  have := h1 g hg
  simp only [decide_eq_true_eq] at this
  omega
theorem small_erase {l : List Gram} (h : small l) (a : Nat) : small (l.eraseIdx a) := fun g hg => h g (List.mem_of_mem_eraseIdx hg)
theorem putB_small {b : Bag} {l : List Gram} (h : small b.grams) (hl : small l) : small (putB b l).grams := by
  induction l generalizing b with
  | nil => exact h
  | cons g r ih =>
    refine ih (b := step b g) ?_ fun x hx => hl x (by simp [hx])
    unfold step; split
    · intro x hx
      rcases List.mem_append.1 hx with hx | hx
      · exact h x hx
      · simp at hx; subst hx; exact hl x (by simp)
    · exact h
theorem putB_len {b : Bag} {x : Gram} (h : b.grams.length ≤ 400) : ((putB b [x]).grams = b.grams ++ [x] ∧ (putB b [x]).lost = b.lost) ∨ ((putB b [x]).grams = b.grams ∧ (putB b [x]).lost = IntKind.wrap .i64 (b.lost + 1)) := by
  show ((step b x).grams = _ ∧ (step b x).lost = _) ∨ _
  unfold putB; simp only [List.foldl_cons, List.foldl_nil]
  unfold step; split
  · exact .inl ⟨rfl, rfl⟩
  · exact .inr ⟨rfl, rfl⟩
end Go.Proofs.Ytgnddlldcglpfaa
