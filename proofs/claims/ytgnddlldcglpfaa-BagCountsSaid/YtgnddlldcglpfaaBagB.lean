/- Written by a program (pre.py) from the source of the same name. -/
/- Bags: the law on whom they are for. -/
import Derived.Test.YtgnddlldcglpfaaBagA
set_option linter.unusedSimpArgs false
set_option linter.unusedVariables false
set_option linter.unnecessarySimpa false
namespace Go.Proofs.Ytgnddlldcglpfaa
open Go.Gar
set_option maxRecDepth 4000

set_option maxHeartbeats 8000000 in
theorem bagFor_no (l : List Gram) (n at_ to : Int) (hg : Bag.great ⟨l, n⟩ = false) (hl : l.length ≤ 400) (h : Bag.isAt ⟨l, n⟩ at_ = false) : Go.Gar.Fn Try.prog 7 [Bag.d ⟨l, n⟩, .i .i64 at_, .i .i64 to] (.b true) := by
  obtain ⟨h1, h2⟩ := great_no hg
  have e1 : twiceB ⟨l, n⟩ at_ = (⟨l, n⟩, 2) := by unfold twiceB; rw [h]; rfl
  have e2 : takeB ⟨l, n⟩ at_ = (⟨l, n⟩, zeroG, false) := by unfold takeB; rw [h]; rfl
  have cT := twice_fn ⟨l, n⟩ at_ (by show l.length ≤ 1000; omega) h2
  have cK := take_fn ⟨l, n⟩ at_ (by show l.length ≤ 1000; omega) h2
  have cG := great_fn ⟨l, n⟩
  have cF := for_fn ⟨l, n⟩ to (by show l.length ≤ 1000; omega)
  have cR := rising_fn ⟨l, n⟩ to (by show l.length ≤ 1000; omega)
  have cS := rSame_fn ⟨l, n⟩ ⟨l, n⟩ (by show l.length < 1000000; omega)
  rw [e1] at cT
  rw [e2] at cK
  rw [hg] at cG
  rw [decide_eq_true rfl] at cS
  have hA : ¬ (at_ ≥ 0 ∧ at_ < l.length) := by
    simp only [Bag.isAt, Bool.and_eq_false_iff, decide_eq_false_iff_not] at h
    show ¬ _
    rintro ⟨h3, h4⟩
    rcases h with h | h
    · exact h h3
    · exact h h4
  refine Fn_of_W eok Try.func7 rfl rfl (Nat.le_of_ble_eq_true rfl) ?_
  by_cases h3 : at_ ≥ 0
  · have h4 : decide (at_ < (l.length : Int)) = false := decide_eq_false fun h => hA ⟨h3, h⟩
    have nS := h4
    repeat' (first
     | ((with_reducible refine sg ?_); first
      | with_reducible rfl
      | with_reducible refine andT ?_ ?_
      | with_reducible exact Nat.beq_refl _
      | with_reducible exact fitsI_u8 _
      | ((with_reducible refine decide_eq_true ?_); first | omega | (simp only [SZl, nS]; omega))
      | decide
      | (simp [SZl, slc, allOneD, D.one, allOne, AV.one, nS]; done)
      | (simp [SZl, nS]; omega))
     | ((with_reducible refine gWl ?_); first
      | (refine Wl_isMv rfl ?_; refine Xmv eok rfl rfl rfl rfl ?_)
      | refine Xq eok rfl rfl rfl rfl ?_ ?_
      | refine Xn [0, 1, 2, 3, 6, 7, 8, 9, 10, 11, 12, 20, 79, 81, 135] rfl ?_
      | refine XF (cG) rfl rfl rfl rfl ?_
      | refine XF (cT) rfl rfl rfl rfl ?_
      | refine XF (cK) rfl rfl rfl rfl ?_
      | refine XF (cF) rfl rfl rfl rfl ?_
      | refine XF (cR) rfl rfl rfl rfl ?_
      | refine XF (cS) rfl rfl rfl rfl ?_
      | refine XF (wakes_fn) rfl rfl rfl rfl ?_
      | refine Xa eok rfl rfl rfl rfl rfl ?_ ?_
      | refine Xw eok rfl rfl rfl rfl ?_ ?_
      | refine Xs rfl rfl rfl ?_
      | (refine Xsplit rfl rfl (fun hc => ?_) (fun hc => ?_) <;> (fail_if_success (with_reducible first | exact absurd (hc : true = false) (by decide) | exact absurd (hc : false = true) (by decide))) <;> (try simp only [decide_eq_true_eq, decide_eq_false_iff_not, Bool.not_eq_true', Bool.not_eq_false', beq_iff_eq, beq_eq_false_iff_ne, bne_iff_ne, bne_eq_false_iff_eq, ne_eq, Int.not_lt, Int.not_le, ge_iff_le, gt_iff_lt] at hc) <;> (try (exfalso; omega))))
     | ((with_reducible refine gWd ?_); first
      | (refine Wd_isMv rfl ?_; refine Ymv eok rfl rfl (fun _ => rfl) rfl rfl ?_)
      | refine Yp eok rfl rfl (fun _ => rfl) rfl rfl ?_ ?_
      | refine Yq rfl rfl rfl rfl rfl ?_ ?_
      | refine Ys rfl rfl rfl rfl ?_
      | refine YF (cG) rfl rfl rfl rfl rfl ?_
      | refine YF (cT) rfl rfl rfl rfl rfl ?_
      | refine YF (cK) rfl rfl rfl rfl rfl ?_
      | refine YF (cF) rfl rfl rfl rfl rfl ?_
      | refine YF (cR) rfl rfl rfl rfl rfl ?_
      | refine YF (cS) rfl rfl rfl rfl rfl ?_
      | refine YF (wakes_fn) rfl rfl rfl rfl rfl ?_
      | refine Ya eok rfl rfl rfl rfl rfl rfl ?_ ?_
      | refine Yw eok rfl rfl rfl rfl rfl ?_ ?_
      | refine Yn [0, 1, 2, 3, 6, 7, 8, 9, 10, 11, 12, 20, 79, 81, 135] [] mixed eok (by kernel_rfl) True.intro rfl ?_
      | (refine Ysplit rfl rfl (fun hc => ?_) (fun hc => ?_) <;> (fail_if_success (with_reducible first | exact absurd (hc : true = false) (by decide) | exact absurd (hc : false = true) (by decide))) <;> (try simp only [decide_eq_true_eq, decide_eq_false_iff_not, Bool.not_eq_true', Bool.not_eq_false', beq_iff_eq, beq_eq_false_iff_ne, bne_iff_ne, bne_eq_false_iff_eq, ne_eq, Int.not_lt, Int.not_le, ge_iff_le, gt_iff_lt] at hc) <;> (try (exfalso; omega))))
     | refine W_seq ?_
     | refine W_region ?_
     | refine W_any T.get ?_
     | refine W_skip ?_
     | refine W_ret ?_
     | refine W_block ?_
     | refine W_exit ?_
     | refine W_cond_t rfl ?_
     | refine W_cond_f rfl ?_
     | (refine W_cond rfl (fun hc => ?_) (fun hc => ?_) <;> (try simp only [decide_eq_true_eq, decide_eq_false_iff_not, Bool.not_eq_true', Bool.not_eq_false', beq_iff_eq, beq_eq_false_iff_ne, bne_iff_ne, bne_eq_false_iff_eq, ne_eq, Int.not_lt, Int.not_le, ge_iff_le, gt_iff_lt] at hc) <;> (try (exfalso; omega))))
    all_goals first
      | (refine ⟨_, _, rfl, rfl, ?_⟩; simp [Frz_tup, Frz_ag, Frzs_cons, Frzs_nil, Frz_d, Frz_e0, Frz_sl, sln, isSl, slOk]; done)
      | (exfalso; omega)
  · have nS := True.intro
    repeat' (first
     | ((with_reducible refine sg ?_); first
      | with_reducible rfl
      | with_reducible refine andT ?_ ?_
      | with_reducible exact Nat.beq_refl _
      | with_reducible exact fitsI_u8 _
      | ((with_reducible refine decide_eq_true ?_); first | omega | (simp only [SZl, nS]; omega))
      | decide
      | (simp [SZl, slc, allOneD, D.one, allOne, AV.one, nS]; done)
      | (simp [SZl, nS]; omega))
     | ((with_reducible refine gWl ?_); first
      | (refine Wl_isMv rfl ?_; refine Xmv eok rfl rfl rfl rfl ?_)
      | refine Xq eok rfl rfl rfl rfl ?_ ?_
      | refine Xn [0, 1, 2, 3, 6, 7, 8, 9, 10, 11, 12, 20, 79, 81, 135] rfl ?_
      | refine XF (cG) rfl rfl rfl rfl ?_
      | refine XF (cT) rfl rfl rfl rfl ?_
      | refine XF (cK) rfl rfl rfl rfl ?_
      | refine XF (cF) rfl rfl rfl rfl ?_
      | refine XF (cR) rfl rfl rfl rfl ?_
      | refine XF (cS) rfl rfl rfl rfl ?_
      | refine XF (wakes_fn) rfl rfl rfl rfl ?_
      | refine Xa eok rfl rfl rfl rfl rfl ?_ ?_
      | refine Xw eok rfl rfl rfl rfl ?_ ?_
      | refine Xs rfl rfl rfl ?_
      | (refine Xsplit rfl rfl (fun hc => ?_) (fun hc => ?_) <;> (fail_if_success (with_reducible first | exact absurd (hc : true = false) (by decide) | exact absurd (hc : false = true) (by decide))) <;> (try simp only [decide_eq_true_eq, decide_eq_false_iff_not, Bool.not_eq_true', Bool.not_eq_false', beq_iff_eq, beq_eq_false_iff_ne, bne_iff_ne, bne_eq_false_iff_eq, ne_eq, Int.not_lt, Int.not_le, ge_iff_le, gt_iff_lt] at hc) <;> (try (exfalso; omega))))
     | ((with_reducible refine gWd ?_); first
      | (refine Wd_isMv rfl ?_; refine Ymv eok rfl rfl (fun _ => rfl) rfl rfl ?_)
      | refine Yp eok rfl rfl (fun _ => rfl) rfl rfl ?_ ?_
      | refine Yq rfl rfl rfl rfl rfl ?_ ?_
      | refine Ys rfl rfl rfl rfl ?_
      | refine YF (cG) rfl rfl rfl rfl rfl ?_
      | refine YF (cT) rfl rfl rfl rfl rfl ?_
      | refine YF (cK) rfl rfl rfl rfl rfl ?_
      | refine YF (cF) rfl rfl rfl rfl rfl ?_
      | refine YF (cR) rfl rfl rfl rfl rfl ?_
      | refine YF (cS) rfl rfl rfl rfl rfl ?_
      | refine YF (wakes_fn) rfl rfl rfl rfl rfl ?_
      | refine Ya eok rfl rfl rfl rfl rfl rfl ?_ ?_
      | refine Yw eok rfl rfl rfl rfl rfl ?_ ?_
      | refine Yn [0, 1, 2, 3, 6, 7, 8, 9, 10, 11, 12, 20, 79, 81, 135] [] mixed eok (by kernel_rfl) True.intro rfl ?_
      | (refine Ysplit rfl rfl (fun hc => ?_) (fun hc => ?_) <;> (fail_if_success (with_reducible first | exact absurd (hc : true = false) (by decide) | exact absurd (hc : false = true) (by decide))) <;> (try simp only [decide_eq_true_eq, decide_eq_false_iff_not, Bool.not_eq_true', Bool.not_eq_false', beq_iff_eq, beq_eq_false_iff_ne, bne_iff_ne, bne_eq_false_iff_eq, ne_eq, Int.not_lt, Int.not_le, ge_iff_le, gt_iff_lt] at hc) <;> (try (exfalso; omega))))
     | refine W_seq ?_
     | refine W_region ?_
     | refine W_any T.get ?_
     | refine W_skip ?_
     | refine W_ret ?_
     | refine W_block ?_
     | refine W_exit ?_
     | refine W_cond_t rfl ?_
     | refine W_cond_f rfl ?_
     | (refine W_cond rfl (fun hc => ?_) (fun hc => ?_) <;> (try simp only [decide_eq_true_eq, decide_eq_false_iff_not, Bool.not_eq_true', Bool.not_eq_false', beq_iff_eq, beq_eq_false_iff_ne, bne_iff_ne, bne_eq_false_iff_eq, ne_eq, Int.not_lt, Int.not_le, ge_iff_le, gt_iff_lt] at hc) <;> (try (exfalso; omega))))
    all_goals first
      | (refine ⟨_, _, rfl, rfl, ?_⟩; simp [Frz_tup, Frz_ag, Frzs_cons, Frzs_nil, Frz_d, Frz_e0, Frz_sl, sln, isSl, slOk]; done)
      | (exfalso; omega)
end Go.Proofs.Ytgnddlldcglpfaa
