/- Written by a program (pre.py) from the source of the same name. -/
/- Bags: the law on whom they are for: there is a datagram at the place; the whole law. -/
import Derived.Test.YtgnddlldcglpfaaBagC
set_option linter.unusedSimpArgs false
set_option linter.unusedVariables false
set_option linter.unnecessarySimpa false
namespace Go.Proofs.Ytgnddlldcglpfaa
open Go.Gar
set_option maxRecDepth 4000

set_option maxHeartbeats 8000000 in
theorem bagFor_out (l : List Gram) (n : Int) (a : Nat) (to : Int) (x : Gram) (hx : l[a]? = some x) (hg : Bag.great ⟨l, n⟩ = false) (hl : l.length ≤ 400) (hP : putB ⟨l, n⟩ [x] = ⟨l, IntKind.wrap .i64 (n + 1)⟩) : Go.Gar.Fn Try.prog 7 [Bag.d ⟨l, n⟩, .i .i64 a, .i .i64 to] (.b true) := by
  obtain ⟨h1, h2⟩ := great_no hg
  replace h2 : small l := h2
  have ha : a < l.length := (List.getElem?_eq_some_iff.1 hx).1
  have h : Bag.isAt ⟨l, n⟩ a = true := by
    simp only [Bag.isAt, Bool.and_eq_true, decide_eq_true_eq]
    exact ⟨by omega, by omega⟩
  have hD : l.getD a zeroG = x := by rw [List.getD_eq_getElem?_getD, hx]; rfl
  have e1 : twiceB ⟨l, n⟩ a = (⟨l, IntKind.wrap .i64 (n + 1)⟩, 0) := by unfold twiceB; rw [h, Int.toNat_natCast]; simp only [if_true, hD, hP]
  have e2 : takeB ⟨l, n⟩ a = (⟨l.eraseIdx a, n⟩, x, true) := by unfold takeB; rw [h, Int.toNat_natCast]; simp only [if_true, hD]
  have hE : (l.eraseIdx a).length = l.length - 1 := List.length_eraseIdx_of_lt ha
  have cT := twice_fn ⟨l, n⟩ a (by show l.length ≤ 1000; omega) h2
  have cK := take_fn ⟨l, n⟩ a (by show l.length ≤ 1000; omega) h2
  have cG := great_fn ⟨l, n⟩
  have cF := for_fn ⟨l, n⟩ to (by show l.length ≤ 1000; omega)
  have cR := rising_fn ⟨l, n⟩ to (by show l.length ≤ 1000; omega)
  have cF2 := for_fn ⟨l, IntKind.wrap .i64 (n + 1)⟩ to (by show l.length ≤ 1000; omega)
  have cR2 := rising_fn ⟨l, IntKind.wrap .i64 (n + 1)⟩ to (by show l.length ≤ 1000; omega)
  have cF3 := for_fn ⟨l.eraseIdx a, n⟩ to (by show (l.eraseIdx a).length ≤ 1000; omega)
  have cR3 := rising_fn ⟨l.eraseIdx a, n⟩ to (by show (l.eraseIdx a).length ≤ 1000; omega)
  rw [e1] at cT
  rw [e2] at cK
  rw [hg] at cG
  have f0 : decide ((a : Int) < (l.length : Int)) = true := decide_eq_true (by omega)
  have f1 : (((l.eraseIdx a).length : Int) != (l.length : Int) - 1) = false := ne_false (by omega)
  refine Fn_of_W eok Try.func7 rfl rfl (Nat.le_of_ble_eq_true rfl) ?_
  have nS := And.intro f0 f1
  repeat' (first
   | ((with_reducible refine sg ?_); first
    | with_reducible rfl
    | ((with_reducible refine fitG ?_); first | kernel_rfl | rfl | (simp [fitT, fitF, nS]; done))
    | with_reducible refine andT ?_ ?_
    | with_reducible exact Nat.beq_refl _
    | with_reducible exact fitsI_u8 _
    | ((with_reducible refine decide_eq_true ?_); first | omega | (simp only [SZl, nS]; omega))
    | decide
    | (simp [SZl, slc, allOneD, D.one, allOne, AV.one, nS]; done)
    | (simp [SZl, nS]; omega))
   | ((with_reducible refine gWl ?_); first
    | (refine Wl_isMv rfl ?_; refine Xmv eok rfl rfl rfl rfl ?_)
    | refine XwL [117] rfl rfl rfl rfl rfl ?_ ?_
    | refine Xq eok rfl rfl rfl rfl ?_ ?_
    | refine Xn [0, 1, 2, 3, 6, 7, 8, 9, 10, 11, 12, 20, 79, 81, 135] rfl ?_
    | refine XF (cG) rfl rfl rfl rfl ?_
    | refine XF (cT) rfl rfl rfl rfl ?_
    | refine XF (cK) rfl rfl rfl rfl ?_
    | refine XF (cF) rfl rfl rfl rfl ?_
    | refine XF (cR) rfl rfl rfl rfl ?_
    | refine XF (cF2) rfl rfl rfl rfl ?_
    | refine XF (cR2) rfl rfl rfl rfl ?_
    | refine XF (cF3) rfl rfl rfl rfl ?_
    | refine XF (cR3) rfl rfl rfl rfl ?_
    | refine XF (wakes_fn) rfl rfl rfl rfl ?_
    | refine Xa eok rfl rfl rfl rfl rfl ?_ ?_
    | refine Xw eok rfl rfl rfl rfl ?_ ?_
    | refine Xs rfl rfl rfl ?_
    | (refine Xsplit rfl rfl (fun hc => ?_) (fun hc => ?_) <;> (fail_if_success (with_reducible first | exact absurd (hc : true = false) (by decide) | exact absurd (hc : false = true) (by decide))) <;> (try simp only [decide_eq_true_eq, decide_eq_false_iff_not, Bool.not_eq_true', Bool.not_eq_false', beq_iff_eq, beq_eq_false_iff_ne, bne_iff_ne, bne_eq_false_iff_eq, ne_eq, Int.not_lt, Int.not_le, ge_iff_le, gt_iff_lt] at hc) <;> (try (exfalso; omega))))
   | ((with_reducible refine gWd ?_); first
    | (refine Wd_isMv rfl ?_; refine Ymv eok rfl rfl (fun _ => rfl) rfl rfl ?_)
    | refine Yp eok rfl rfl (fun _ => rfl) rfl rfl ?_ ?_
    | refine Yq rfl rfl rfl rfl rfl ?_ ?_
    | refine Ys rfl rfl rfl rfl ?_
    | refine YF (cG) rfl rfl rfl rfl rfl ?_
    | refine YF (cT) rfl rfl rfl rfl rfl ?_
    | refine YF (cK) rfl rfl rfl rfl rfl ?_
    | refine YF (cF) rfl rfl rfl rfl rfl ?_
    | refine YF (cR) rfl rfl rfl rfl rfl ?_
    | refine YF (cF2) rfl rfl rfl rfl rfl ?_
    | refine YF (cR2) rfl rfl rfl rfl rfl ?_
    | refine YF (cF3) rfl rfl rfl rfl rfl ?_
    | refine YF (cR3) rfl rfl rfl rfl rfl ?_
    | refine YF (wakes_fn) rfl rfl rfl rfl rfl ?_
    | refine Ya eok rfl rfl rfl rfl rfl rfl ?_ ?_
    | refine Yw eok rfl rfl rfl rfl rfl ?_ ?_
    | refine Yn [0, 1, 2, 3, 6, 7, 8, 9, 10, 11, 12, 20, 79, 81, 135] [] mixed eok (by kernel_rfl) True.intro rfl ?_
    | (refine Ysplit rfl rfl (fun hc => ?_) (fun hc => ?_) <;> (fail_if_success (with_reducible first | exact absurd (hc : true = false) (by decide) | exact absurd (hc : false = true) (by decide))) <;> (try simp only [decide_eq_true_eq, decide_eq_false_iff_not, Bool.not_eq_true', Bool.not_eq_false', beq_iff_eq, beq_eq_false_iff_ne, bne_iff_ne, bne_eq_false_iff_eq, ne_eq, Int.not_lt, Int.not_le, ge_iff_le, gt_iff_lt] at hc) <;> (try (exfalso; omega))))
   | refine W_seq ?_
   | refine W_region ?_
   | refine W_any T.get ?_
   | refine W_skip ?_
   | refine W_ret ?_
   | refine W_block ?_
   | refine W_exit ?_
   | refine W_cond_t rfl ?_
   | refine W_cond_f rfl ?_
   | (refine W_cond rfl (fun hc => ?_) (fun hc => ?_) <;> (try simp only [decide_eq_true_eq, decide_eq_false_iff_not, Bool.not_eq_true', Bool.not_eq_false', beq_iff_eq, beq_eq_false_iff_ne, bne_iff_ne, bne_eq_false_iff_eq, ne_eq, Int.not_lt, Int.not_le, ge_iff_le, gt_iff_lt] at hc) <;> (try (exfalso; omega))))
  all_goals first
    | (refine ⟨_, _, rfl, rfl, ?_⟩; simp [Frz_tup, Frz_ag, Frzs_cons, Frzs_nil, Frz_d, Frz_e0, Frz_sl, sln, isSl, slOk]; done)
    | (exfalso; omega)

theorem bagFor_fn (b : Bag) (at_ to : Int) : Go.Gar.Fn Try.prog 7 [b.d, .i .i64 at_, .i .i64 to] (.b true) := by
  obtain ⟨l, n⟩ := b
  cases hg : Bag.great ⟨l, n⟩ with
  | true =>
    have cG := great_fn ⟨l, n⟩
    rw [hg] at cG
    refine Fn_of_W eok Try.func7 rfl rfl (Nat.le_of_ble_eq_true rfl) ?_
    have nS := True.intro
    repeat' (first
     | ((with_reducible refine sg ?_); first
      | with_reducible rfl
      | ((with_reducible refine fitG ?_); first | kernel_rfl | rfl | (simp [fitT, fitF, nS]; done))
      | with_reducible refine andT ?_ ?_
      | with_reducible exact Nat.beq_refl _
      | with_reducible exact fitsI_u8 _
      | ((with_reducible refine decide_eq_true ?_); first | omega | (simp only [SZl, nS]; omega))
      | decide
      | (simp [SZl, slc, allOneD, D.one, allOne, AV.one, nS]; done)
      | (simp [SZl, nS]; omega))
     | ((with_reducible refine gWl ?_); first
      | (refine Wl_isMv rfl ?_; refine Xmv eok rfl rfl rfl rfl ?_)
      | refine Xq eok rfl rfl rfl rfl ?_ ?_
      | refine Xn [0, 1, 2, 3, 6, 7, 8, 9, 10, 11, 12, 20, 79, 81, 135] rfl ?_
      | refine XF (cG) rfl rfl rfl rfl ?_
      | refine XF (wakes_fn) rfl rfl rfl rfl ?_
      | refine Xa eok rfl rfl rfl rfl rfl ?_ ?_
      | refine Xw eok rfl rfl rfl rfl ?_ ?_
      | refine Xs rfl rfl rfl ?_
      | (refine Xsplit rfl rfl (fun hc => ?_) (fun hc => ?_) <;> (fail_if_success (with_reducible first | exact absurd (hc : true = false) (by decide) | exact absurd (hc : false = true) (by decide))) <;> (try simp only [decide_eq_true_eq, decide_eq_false_iff_not, Bool.not_eq_true', Bool.not_eq_false', beq_iff_eq, beq_eq_false_iff_ne, bne_iff_ne, bne_eq_false_iff_eq, ne_eq, Int.not_lt, Int.not_le, ge_iff_le, gt_iff_lt] at hc) <;> (try (exfalso; omega))))
     | ((with_reducible refine gWd ?_); first
      | (refine Wd_isMv rfl ?_; refine Ymv eok rfl rfl (fun _ => rfl) rfl rfl ?_)
      | refine Yp eok rfl rfl (fun _ => rfl) rfl rfl ?_ ?_
      | refine Yq rfl rfl rfl rfl rfl ?_ ?_
      | refine Ys rfl rfl rfl rfl ?_
      | refine YF (cG) rfl rfl rfl rfl rfl ?_
      | refine YF (wakes_fn) rfl rfl rfl rfl rfl ?_
      | refine Ya eok rfl rfl rfl rfl rfl rfl ?_ ?_
      | refine Yw eok rfl rfl rfl rfl rfl ?_ ?_
      | refine Yn [0, 1, 2, 3, 6, 7, 8, 9, 10, 11, 12, 20, 79, 81, 135] [] mixed eok (by kernel_rfl) True.intro rfl ?_
      | (refine Ysplit rfl rfl (fun hc => ?_) (fun hc => ?_) <;> (fail_if_success (with_reducible first | exact absurd (hc : true = false) (by decide) | exact absurd (hc : false = true) (by decide))) <;> (try simp only [decide_eq_true_eq, decide_eq_false_iff_not, Bool.not_eq_true', Bool.not_eq_false', beq_iff_eq, beq_eq_false_iff_ne, bne_iff_ne, bne_eq_false_iff_eq, ne_eq, Int.not_lt, Int.not_le, ge_iff_le, gt_iff_lt] at hc) <;> (try (exfalso; omega))))
     | refine W_seq ?_
     | refine W_region ?_
     | refine W_any T.get ?_
     | refine W_skip ?_
     | refine W_ret ?_
     | refine W_block ?_
     | refine W_exit ?_
     | refine W_cond_t rfl ?_
     | refine W_cond_f rfl ?_
     | (refine W_cond rfl (fun hc => ?_) (fun hc => ?_) <;> (try simp only [decide_eq_true_eq, decide_eq_false_iff_not, Bool.not_eq_true', Bool.not_eq_false', beq_iff_eq, beq_eq_false_iff_ne, bne_iff_ne, bne_eq_false_iff_eq, ne_eq, Int.not_lt, Int.not_le, ge_iff_le, gt_iff_lt] at hc) <;> (try (exfalso; omega))))
    refine ⟨_, _, rfl, rfl, ?_⟩; simp [Frz_tup, Frz_ag, Frzs_cons, Frzs_nil, Frz_d, Frz_e0, Frz_sl, sln, isSl, slOk]
  | false =>
    by_cases hl : l.length ≤ 400
    · cases h : Bag.isAt ⟨l, n⟩ at_ with
      | false => exact bagFor_no l n at_ to hg hl h
      | true =>
        obtain ⟨a, rfl, ha⟩ := isAt_nat h
        obtain ⟨x, hx⟩ := get_of ha
        replace hx : l[a]? = some x := hx
        by_cases hc : l.length < 400 ∧ x.by_.length ≤ 120
        · exact bagFor_in l n a to x hx hg hl (step_in (b := ⟨l, n⟩) hc)
        · exact bagFor_out l n a to x hx hg hl (step_out (b := ⟨l, n⟩) hc)
    · have cG := great_fn ⟨l, n⟩
      rw [hg] at cG
      refine Fn_of_W eok Try.func7 rfl rfl (Nat.le_of_ble_eq_true rfl) ?_
      have nS := True.intro
      repeat' (first
       | ((with_reducible refine sg ?_); first
        | with_reducible rfl
        | ((with_reducible refine fitG ?_); first | kernel_rfl | rfl | (simp [fitT, fitF, nS]; done))
        | with_reducible refine andT ?_ ?_
        | with_reducible exact Nat.beq_refl _
        | with_reducible exact fitsI_u8 _
        | ((with_reducible refine decide_eq_true ?_); first | omega | (simp only [SZl, nS]; omega))
        | decide
        | (simp [SZl, slc, allOneD, D.one, allOne, AV.one, nS]; done)
        | (simp [SZl, nS]; omega))
       | ((with_reducible refine gWl ?_); first
        | (refine Wl_isMv rfl ?_; refine Xmv eok rfl rfl rfl rfl ?_)
        | refine Xq eok rfl rfl rfl rfl ?_ ?_
        | refine Xn [0, 1, 2, 3, 6, 7, 8, 9, 10, 11, 12, 20, 79, 81, 135] rfl ?_
        | refine XF (cG) rfl rfl rfl rfl ?_
        | refine XF (wakes_fn) rfl rfl rfl rfl ?_
        | refine Xa eok rfl rfl rfl rfl rfl ?_ ?_
        | refine Xw eok rfl rfl rfl rfl ?_ ?_
        | refine Xs rfl rfl rfl ?_
        | (refine Xsplit rfl rfl (fun hc => ?_) (fun hc => ?_) <;> (fail_if_success (with_reducible first | exact absurd (hc : true = false) (by decide) | exact absurd (hc : false = true) (by decide))) <;> (try simp only [decide_eq_true_eq, decide_eq_false_iff_not, Bool.not_eq_true', Bool.not_eq_false', beq_iff_eq, beq_eq_false_iff_ne, bne_iff_ne, bne_eq_false_iff_eq, ne_eq, Int.not_lt, Int.not_le, ge_iff_le, gt_iff_lt] at hc) <;> (try (exfalso; omega))))
       | ((with_reducible refine gWd ?_); first
        | (refine Wd_isMv rfl ?_; refine Ymv eok rfl rfl (fun _ => rfl) rfl rfl ?_)
        | refine Yp eok rfl rfl (fun _ => rfl) rfl rfl ?_ ?_
        | refine Yq rfl rfl rfl rfl rfl ?_ ?_
        | refine Ys rfl rfl rfl rfl ?_
        | refine YF (cG) rfl rfl rfl rfl rfl ?_
        | refine YF (wakes_fn) rfl rfl rfl rfl rfl ?_
        | refine Ya eok rfl rfl rfl rfl rfl rfl ?_ ?_
        | refine Yw eok rfl rfl rfl rfl rfl ?_ ?_
        | refine Yn [0, 1, 2, 3, 6, 7, 8, 9, 10, 11, 12, 20, 79, 81, 135] [] mixed eok (by kernel_rfl) True.intro rfl ?_
        | (refine Ysplit rfl rfl (fun hc => ?_) (fun hc => ?_) <;> (fail_if_success (with_reducible first | exact absurd (hc : true = false) (by decide) | exact absurd (hc : false = true) (by decide))) <;> (try simp only [decide_eq_true_eq, decide_eq_false_iff_not, Bool.not_eq_true', Bool.not_eq_false', beq_iff_eq, beq_eq_false_iff_ne, bne_iff_ne, bne_eq_false_iff_eq, ne_eq, Int.not_lt, Int.not_le, ge_iff_le, gt_iff_lt] at hc) <;> (try (exfalso; omega))))
       | refine W_seq ?_
       | refine W_region ?_
       | refine W_any T.get ?_
       | refine W_skip ?_
       | refine W_ret ?_
       | refine W_block ?_
       | refine W_exit ?_
       | refine W_cond_t rfl ?_
       | refine W_cond_f rfl ?_
       | (refine W_cond rfl (fun hc => ?_) (fun hc => ?_) <;> (try simp only [decide_eq_true_eq, decide_eq_false_iff_not, Bool.not_eq_true', Bool.not_eq_false', beq_iff_eq, beq_eq_false_iff_ne, bne_iff_ne, bne_eq_false_iff_eq, ne_eq, Int.not_lt, Int.not_le, ge_iff_le, gt_iff_lt] at hc) <;> (try (exfalso; omega))))
      refine ⟨_, _, rfl, rfl, ?_⟩; simp [Frz_tup, Frz_ag, Frzs_cons, Frzs_nil, Frz_d, Frz_e0, Frz_sl, sln, isSl, slOk]
end Go.Proofs.Ytgnddlldcglpfaa
