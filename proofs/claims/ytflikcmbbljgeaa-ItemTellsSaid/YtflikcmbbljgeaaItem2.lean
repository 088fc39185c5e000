/- Written by a program (pre.py) from the source of the same name. -/
/- Pairs: Cmp, Newer, Gone, Pair; the document's answers. -/
import Derived.Test.YtflikcmbbljgeaaItem1
set_option linter.unusedSimpArgs false
set_option linter.unusedVariables false
set_option linter.unnecessarySimpa false
namespace Go.Proofs.Ytflikcmbbljgeaa
open Go.Gar
set_option maxRecDepth 4000

/-- Which of two pairs is newer. -/
def cmpT (x y : Item) : Int :=
  if x.version < y.version then -1 else if y.version < x.version then 1 else if x.value < y.value then -1 else if y.value < x.value then 1 else
  if x.gone = y.gone then 0 else if x.gone then 1 else -1

set_option maxHeartbeats 4000000 in
theorem Cmp_fn (x y : Item) : Go.Gar.Fn Try.prog 22 [x.d, y.d] (.i .i64 (cmpT x y)) := by
  have c1 := of_fn x
  have c2 := of_fn y
  obtain ⟨k, v, n, g⟩ := x
  obtain ⟨k', v', n', g'⟩ := y
  have c3 := Compare_fn n n'
  have c4 := Compare_fn v v'
  have c5 := Or_fn (cmpI n n') (cmpI v v')
  refine Fn_of_W eok Try.func22 rfl rfl (Nat.le_of_ble_eq_true rfl) ?_
  have nS := True.intro
  repeat' (first
   | ((with_reducible refine sg ?_); first
    | with_reducible rfl
    | ((with_reducible refine fitG ?_); first | kernel_rfl | rfl | (simp [fitT, fitF, nS]; done))
    | with_reducible refine andT ?_ ?_
    | with_reducible exact Nat.beq_refl _
    | with_reducible exact fitsI_u8 _
    | ((with_reducible refine decide_eq_true ?_); first | omega | (simp only [SZl, nS]; omega))
    | decide
    | (simp [SZl, slc, allOneD, D.one, allOne, AV.one, nS]; done)
    | (simp [SZl, nS]; omega))
   | ((with_reducible refine gWl ?_); first
    | (refine Wl_isMv rfl ?_; refine Xmv eok rfl rfl rfl rfl ?_)
    | refine Xq eok rfl rfl rfl rfl ?_ ?_
    | refine Xn [0, 1, 2, 3, 4, 5, 6, 7, 14, 32, 34] rfl ?_
    | refine Xa eok rfl rfl rfl rfl rfl ?_ ?_
    | refine Xw eok rfl rfl rfl rfl ?_ ?_
    | refine Xs rfl rfl rfl ?_
    | (refine Xsplit rfl rfl (fun hc => ?_) (fun hc => ?_) <;> (fail_if_success (with_reducible first | exact absurd (hc : true = false) (by decide) | exact absurd (hc : false = true) (by decide))) <;> (try simp only [decide_eq_true_eq, decide_eq_false_iff_not, Bool.not_eq_true', Bool.not_eq_false', beq_iff_eq, beq_eq_false_iff_ne, bne_iff_ne, bne_eq_false_iff_eq, ne_eq, Int.not_lt, Int.not_le, ge_iff_le, gt_iff_lt] at hc) <;> (try (exfalso; omega))))
   | ((with_reducible refine gWd ?_); first
    | (refine Wd_isMv rfl ?_; refine Ymv eok rfl rfl (fun _ => rfl) rfl rfl ?_)
    | refine Yp eok rfl rfl (fun _ => rfl) rfl rfl ?_ ?_
    | refine Yq rfl rfl rfl rfl rfl ?_ ?_
    | refine Ys rfl rfl rfl rfl ?_
    | refine Ya eok rfl rfl rfl rfl rfl rfl ?_ ?_
    | refine Yw eok rfl rfl rfl rfl rfl ?_ ?_
    | refine Yn [0, 1, 2, 3, 4, 5, 6, 7, 14, 32, 34] [] mixed eok (by kernel_rfl) True.intro rfl ?_
    | (refine Ysplit rfl rfl (fun hc => ?_) (fun hc => ?_) <;> (fail_if_success (with_reducible first | exact absurd (hc : true = false) (by decide) | exact absurd (hc : false = true) (by decide))) <;> (try simp only [decide_eq_true_eq, decide_eq_false_iff_not, Bool.not_eq_true', Bool.not_eq_false', beq_iff_eq, beq_eq_false_iff_ne, bne_iff_ne, bne_eq_false_iff_eq, ne_eq, Int.not_lt, Int.not_le, ge_iff_le, gt_iff_lt] at hc) <;> (try (exfalso; omega))))
   | refine W_seq ?_
   | refine W_regionS [1] rfl ?_
   | refine W_anyS [1] T.get rfl ?_
   | refine W_skip ?_
   | refine W_ret ?_
   | refine W_block ?_
   | refine W_exit ?_
   | refine W_cond_t rfl ?_
   | refine W_cond_f rfl ?_
   | (refine W_cond rfl (fun hc => ?_) (fun hc => ?_) <;> (try simp only [decide_eq_true_eq, decide_eq_false_iff_not, Bool.not_eq_true', Bool.not_eq_false', beq_iff_eq, beq_eq_false_iff_ne, bne_iff_ne, bne_eq_false_iff_eq, ne_eq, Int.not_lt, Int.not_le, ge_iff_le, gt_iff_lt] at hc) <;> (try (exfalso; omega))))
  refine W_any2 T.get 4 5 2 3 ⟨[(0, .d (Item.d ⟨k, v, n, g⟩)), (1, .d (Item.d ⟨k', v', n', g'⟩)), (2, .ptr 0 0 4), (3, .ptr 1 0 4), (4, .d (.i .i64 0)), (5, .ptr 2 0 3), (6, .ptr 3 0 3)], [.c [.d (.s k), .d (.i .i64 v), .d (.i .i64 n), .d (.b g)], .c [.d (.s k'), .d (.i .i64 v'), .d (.i .i64 n'), .d (.b g')], .c [.d (.i .i64 n), .d (.i .i64 v), .d (.b g)], .c [.d (.i .i64 n'), .d (.i .i64 v'), .d (.b g')]], 36⟩ mixed rfl rfl rfl ?_ ?_ ?_
  · have nS := True.intro
    repeat' (first
     | ((with_reducible refine sg ?_); first
      | with_reducible rfl
      | ((with_reducible refine fitG ?_); first | kernel_rfl | rfl | (simp [fitT, fitF, nS]; done))
      | with_reducible refine andT ?_ ?_
      | with_reducible exact Nat.beq_refl _
      | with_reducible exact fitsI_u8 _
      | ((with_reducible refine decide_eq_true ?_); first | omega | (simp only [SZl, nS]; omega))
      | decide
      | (simp [SZl, slc, allOneD, D.one, allOne, AV.one, nS]; done)
      | (simp [SZl, nS]; omega))
     | ((with_reducible refine gWl ?_); first
      | (refine Wl_isMv rfl ?_; refine Xmv eok rfl rfl rfl rfl ?_)
      | refine Xq eok rfl rfl rfl rfl ?_ ?_
      | refine Xn [0, 1, 2, 3, 4, 5, 6, 7, 14, 32, 34] rfl ?_
      | refine XF (c1) rfl rfl rfl rfl ?_
      | refine XF (c2) rfl rfl rfl rfl ?_
      | refine Xa eok rfl rfl rfl rfl rfl ?_ ?_
      | refine Xw eok rfl rfl rfl rfl ?_ ?_
      | refine Xs rfl rfl rfl ?_
      | (refine Xsplit rfl rfl (fun hc => ?_) (fun hc => ?_) <;> (fail_if_success (with_reducible first | exact absurd (hc : true = false) (by decide) | exact absurd (hc : false = true) (by decide))) <;> (try simp only [decide_eq_true_eq, decide_eq_false_iff_not, Bool.not_eq_true', Bool.not_eq_false', beq_iff_eq, beq_eq_false_iff_ne, bne_iff_ne, bne_eq_false_iff_eq, ne_eq, Int.not_lt, Int.not_le, ge_iff_le, gt_iff_lt] at hc) <;> (try (exfalso; omega))))
     | ((with_reducible refine gWd ?_); first
      | (refine Wd_isMv rfl ?_; refine Ymv eok rfl rfl (fun _ => rfl) rfl rfl ?_)
      | refine Yp eok rfl rfl (fun _ => rfl) rfl rfl ?_ ?_
      | refine Yq rfl rfl rfl rfl rfl ?_ ?_
      | refine Ys rfl rfl rfl rfl ?_
      | refine YF (c1) rfl rfl rfl rfl rfl ?_
      | refine YF (c2) rfl rfl rfl rfl rfl ?_
      | refine Ya eok rfl rfl rfl rfl rfl rfl ?_ ?_
      | refine Yw eok rfl rfl rfl rfl rfl ?_ ?_
      | refine Yn [0, 1, 2, 3, 4, 5, 6, 7, 14, 32, 34] [(0, 4), (0, 5), (0, 6), (0, 7), (2, 4), (2, 5), (2, 6), (2, 7)] mixed eok (by kernel_rfl) (by simp only [extraL]; repeat' (first | exact True.intro | refine And.intro ?_ ?_ | exact ⟨_, rfl, rfl⟩ | rfl)) rfl ?_
      | refine Yn2 [0, 1, 2, 3, 4, 5, 6, 7, 14, 32, 34] [(0, 4), (0, 5), (0, 6), (0, 7), (2, 4), (2, 5), (2, 6), (2, 7)] eok (by kernel_rfl) (by simp only [extraL]; repeat' (first | exact True.intro | refine And.intro ?_ ?_ | exact ⟨_, rfl, rfl⟩ | rfl)) rfl ?_
      | (refine Ysplit rfl rfl (fun hc => ?_) (fun hc => ?_) <;> (fail_if_success (with_reducible first | exact absurd (hc : true = false) (by decide) | exact absurd (hc : false = true) (by decide))) <;> (try simp only [decide_eq_true_eq, decide_eq_false_iff_not, Bool.not_eq_true', Bool.not_eq_false', beq_iff_eq, beq_eq_false_iff_ne, bne_iff_ne, bne_eq_false_iff_eq, ne_eq, Int.not_lt, Int.not_le, ge_iff_le, gt_iff_lt] at hc) <;> (try (exfalso; omega))))
     | refine W_seq ?_
     | refine W_region ?_
     | refine W_any T.get ?_
     | refine W_skip ?_
     | refine W_ret ?_
     | refine W_block ?_
     | refine W_exit ?_
     | refine W_cond_t rfl ?_
     | refine W_cond_f rfl ?_
     | (refine W_cond rfl (fun hc => ?_) (fun hc => ?_) <;> (try simp only [decide_eq_true_eq, decide_eq_false_iff_not, Bool.not_eq_true', Bool.not_eq_false', beq_iff_eq, beq_eq_false_iff_ne, bne_iff_ne, bne_eq_false_iff_eq, ne_eq, Int.not_lt, Int.not_le, ge_iff_le, gt_iff_lt] at hc) <;> (try (exfalso; omega))))

    exact ⟨rfl, .inl rfl⟩
  · have nS := True.intro
    repeat' (first
     | ((with_reducible refine sg ?_); first
      | with_reducible rfl
      | ((with_reducible refine fitG ?_); first | kernel_rfl | rfl | (simp [fitT, fitF, nS]; done))
      | with_reducible refine andT ?_ ?_
      | with_reducible exact Nat.beq_refl _
      | with_reducible exact fitsI_u8 _
      | ((with_reducible refine decide_eq_true ?_); first | omega | (simp only [SZl, nS]; omega))
      | decide
      | (simp [SZl, slc, allOneD, D.one, allOne, AV.one, nS]; done)
      | (simp [SZl, nS]; omega))
     | ((with_reducible refine gWl ?_); first
      | (refine Wl_isMv rfl ?_; refine Xmv eok rfl rfl rfl rfl ?_)
      | refine Xq eok rfl rfl rfl rfl ?_ ?_
      | refine Xn [0, 1, 2, 3, 4, 5, 6, 7, 14, 32, 34] rfl ?_
      | refine XF (c1) rfl rfl rfl rfl ?_
      | refine XF (c2) rfl rfl rfl rfl ?_
      | refine Xa eok rfl rfl rfl rfl rfl ?_ ?_
      | refine Xw eok rfl rfl rfl rfl ?_ ?_
      | refine Xs rfl rfl rfl ?_
      | (refine Xsplit rfl rfl (fun hc => ?_) (fun hc => ?_) <;> (fail_if_success (with_reducible first | exact absurd (hc : true = false) (by decide) | exact absurd (hc : false = true) (by decide))) <;> (try simp only [decide_eq_true_eq, decide_eq_false_iff_not, Bool.not_eq_true', Bool.not_eq_false', beq_iff_eq, beq_eq_false_iff_ne, bne_iff_ne, bne_eq_false_iff_eq, ne_eq, Int.not_lt, Int.not_le, ge_iff_le, gt_iff_lt] at hc) <;> (try (exfalso; omega))))
     | ((with_reducible refine gWd ?_); first
      | (refine Wd_isMv rfl ?_; refine Ymv eok rfl rfl (fun _ => rfl) rfl rfl ?_)
      | refine Yp eok rfl rfl (fun _ => rfl) rfl rfl ?_ ?_
      | refine Yq rfl rfl rfl rfl rfl ?_ ?_
      | refine Ys rfl rfl rfl rfl ?_
      | refine YF (c1) rfl rfl rfl rfl rfl ?_
      | refine YF (c2) rfl rfl rfl rfl rfl ?_
      | refine Ya eok rfl rfl rfl rfl rfl rfl ?_ ?_
      | refine Yw eok rfl rfl rfl rfl rfl ?_ ?_
      | refine Yn [0, 1, 2, 3, 4, 5, 6, 7, 14, 32, 34] [(0, 4), (0, 5), (0, 6), (0, 7), (2, 4), (2, 5), (2, 6), (2, 7)] mixed eok (by kernel_rfl) (by simp only [extraL]; repeat' (first | exact True.intro | refine And.intro ?_ ?_ | exact ⟨_, rfl, rfl⟩ | rfl)) rfl ?_
      | refine Yn2 [0, 1, 2, 3, 4, 5, 6, 7, 14, 32, 34] [(0, 4), (0, 5), (0, 6), (0, 7), (2, 4), (2, 5), (2, 6), (2, 7)] eok (by kernel_rfl) (by simp only [extraL]; repeat' (first | exact True.intro | refine And.intro ?_ ?_ | exact ⟨_, rfl, rfl⟩ | rfl)) rfl ?_
      | (refine Ysplit rfl rfl (fun hc => ?_) (fun hc => ?_) <;> (fail_if_success (with_reducible first | exact absurd (hc : true = false) (by decide) | exact absurd (hc : false = true) (by decide))) <;> (try simp only [decide_eq_true_eq, decide_eq_false_iff_not, Bool.not_eq_true', Bool.not_eq_false', beq_iff_eq, beq_eq_false_iff_ne, bne_iff_ne, bne_eq_false_iff_eq, ne_eq, Int.not_lt, Int.not_le, ge_iff_le, gt_iff_lt] at hc) <;> (try (exfalso; omega))))
     | refine W_seq ?_
     | refine W_region ?_
     | refine W_any T.get ?_
     | refine W_skip ?_
     | refine W_ret ?_
     | refine W_block ?_
     | refine W_exit ?_
     | refine W_cond_t rfl ?_
     | refine W_cond_f rfl ?_
     | (refine W_cond rfl (fun hc => ?_) (fun hc => ?_) <;> (try simp only [decide_eq_true_eq, decide_eq_false_iff_not, Bool.not_eq_true', Bool.not_eq_false', beq_iff_eq, beq_eq_false_iff_ne, bne_iff_ne, bne_eq_false_iff_eq, ne_eq, Int.not_lt, Int.not_le, ge_iff_le, gt_iff_lt] at hc) <;> (try (exfalso; omega))))
    exact ⟨rfl, .inr rfl⟩
  by_cases hs : n = n' ∧ v = v' ∧ g = g'
  · obtain ⟨rfl, rfl, rfl⟩ := hs
    have e : eqL [.i .i64 n, .i .i64 v, .b g] [.i .i64 n, .i .i64 v, .b g] = true := by simp [eqL, eq1]
    have eT : cmpT ⟨k, v, n, g⟩ ⟨k', v, n, g⟩ = 0 := by simp [cmpT]
    have nS := e
    repeat' (first
     | ((with_reducible refine sg ?_); first
      | with_reducible rfl
      | ((with_reducible refine fitG ?_); first | kernel_rfl | rfl | (simp [fitT, fitF, nS]; done))
      | with_reducible refine andT ?_ ?_
      | with_reducible exact Nat.beq_refl _
      | with_reducible exact fitsI_u8 _
      | ((with_reducible refine decide_eq_true ?_); first | omega | (simp only [SZl, nS]; omega))
      | decide
      | (simp [SZl, slc, allOneD, D.one, allOne, AV.one, nS]; done)
      | (simp [SZl, nS]; omega))
     | ((with_reducible refine gWl ?_); first
      | (refine Wl_isMv rfl ?_; refine Xmv eok rfl rfl rfl rfl ?_)
      | refine Xq eok rfl rfl rfl rfl ?_ ?_
      | refine Xn [0, 1, 2, 3, 4, 5, 6, 7, 14, 32, 34] rfl ?_
      | refine Xa eok rfl rfl rfl rfl rfl ?_ ?_
      | refine Xw eok rfl rfl rfl rfl ?_ ?_
      | refine Xs rfl rfl rfl ?_
      | (refine Xsplit rfl rfl (fun hc => ?_) (fun hc => ?_) <;> (fail_if_success (with_reducible first | exact absurd (hc : true = false) (by decide) | exact absurd (hc : false = true) (by decide))) <;> (try simp only [decide_eq_true_eq, decide_eq_false_iff_not, Bool.not_eq_true', Bool.not_eq_false', beq_iff_eq, beq_eq_false_iff_ne, bne_iff_ne, bne_eq_false_iff_eq, ne_eq, Int.not_lt, Int.not_le, ge_iff_le, gt_iff_lt] at hc) <;> (try (exfalso; omega))))
     | ((with_reducible refine gWd ?_); first
      | (refine Wd_isMv rfl ?_; refine Ymv eok rfl rfl (fun _ => rfl) rfl rfl ?_)
      | refine Yp eok rfl rfl (fun _ => rfl) rfl rfl ?_ ?_
      | refine Yq rfl rfl rfl rfl rfl ?_ ?_
      | refine Ys rfl rfl rfl rfl ?_
      | refine Ya eok rfl rfl rfl rfl rfl rfl ?_ ?_
      | refine Yw eok rfl rfl rfl rfl rfl ?_ ?_
      | refine Yn [0, 1, 2, 3, 4, 5, 6, 7, 14, 32, 34] [] mixed eok (by kernel_rfl) True.intro rfl ?_
      | (refine Ysplit rfl rfl (fun hc => ?_) (fun hc => ?_) <;> (fail_if_success (with_reducible first | exact absurd (hc : true = false) (by decide) | exact absurd (hc : false = true) (by decide))) <;> (try simp only [decide_eq_true_eq, decide_eq_false_iff_not, Bool.not_eq_true', Bool.not_eq_false', beq_iff_eq, beq_eq_false_iff_ne, bne_iff_ne, bne_eq_false_iff_eq, ne_eq, Int.not_lt, Int.not_le, ge_iff_le, gt_iff_lt] at hc) <;> (try (exfalso; omega))))
     | refine W_seq ?_
     | refine W_region ?_
     | refine W_any T.get ?_
     | refine W_skip ?_
     | refine W_ret ?_
     | refine W_block ?_
     | refine W_exit ?_
     | refine W_cond_t rfl ?_
     | refine W_cond_f rfl ?_
     | (refine W_cond rfl (fun hc => ?_) (fun hc => ?_) <;> (try simp only [decide_eq_true_eq, decide_eq_false_iff_not, Bool.not_eq_true', Bool.not_eq_false', beq_iff_eq, beq_eq_false_iff_ne, bne_iff_ne, bne_eq_false_iff_eq, ne_eq, Int.not_lt, Int.not_le, ge_iff_le, gt_iff_lt] at hc) <;> (try (exfalso; omega))))
    refine ⟨_, _, rfl, rfl, ?_⟩; simp [Frz_tup, Frz_ag, Frzs_cons, Frzs_nil, Frz_d, Frz_e0, Frz_sl, sln, isSl, slOk, eT]
  have e : eqL [.i .i64 n, .i .i64 v, .b g] [.i .i64 n', .i .i64 v', .b g'] = false := by
    cases h : eqL [.i .i64 n, .i .i64 v, .b g] [.i .i64 n', .i .i64 v', .b g'] with
    | false => rfl
    | true => simp [eqL, eq1] at h; exact absurd h hs
  rcases Int.lt_trichotomy n n' with h | h | h
  · have hO : orI (cmpI n n') (cmpI v v') = -1 := by simp [orI, cmpI, h]
    have eT : cmpT ⟨k, v, n, g⟩ ⟨k', v', n', g'⟩ = -1 := by simp [cmpT, h]
    rw [hO] at c5
    have nS := e
    repeat' (first
     | ((with_reducible refine sg ?_); first
      | with_reducible rfl
      | ((with_reducible refine fitG ?_); first | kernel_rfl | rfl | (simp [fitT, fitF, nS]; done))
      | with_reducible refine andT ?_ ?_
      | with_reducible exact Nat.beq_refl _
      | with_reducible exact fitsI_u8 _
      | ((with_reducible refine decide_eq_true ?_); first | omega | (simp only [SZl, nS]; omega))
      | decide
      | (simp [SZl, slc, allOneD, D.one, allOne, AV.one, nS]; done)
      | (simp [SZl, nS]; omega))
     | ((with_reducible refine gWl ?_); first
      | (refine Wl_isMv rfl ?_; refine Xmv eok rfl rfl rfl rfl ?_)
      | refine Xq eok rfl rfl rfl rfl ?_ ?_
      | refine Xn [0, 1, 2, 3, 4, 5, 6, 7, 14, 32, 34] rfl ?_
      | refine XF (c3) rfl rfl rfl rfl ?_
      | refine XF (c4) rfl rfl rfl rfl ?_
      | refine XF (c5) rfl rfl rfl rfl ?_
      | refine Xa eok rfl rfl rfl rfl rfl ?_ ?_
      | refine Xw eok rfl rfl rfl rfl ?_ ?_
      | refine Xs rfl rfl rfl ?_
      | (refine Xsplit rfl rfl (fun hc => ?_) (fun hc => ?_) <;> (fail_if_success (with_reducible first | exact absurd (hc : true = false) (by decide) | exact absurd (hc : false = true) (by decide))) <;> (try simp only [decide_eq_true_eq, decide_eq_false_iff_not, Bool.not_eq_true', Bool.not_eq_false', beq_iff_eq, beq_eq_false_iff_ne, bne_iff_ne, bne_eq_false_iff_eq, ne_eq, Int.not_lt, Int.not_le, ge_iff_le, gt_iff_lt] at hc) <;> (try (exfalso; omega))))
     | ((with_reducible refine gWd ?_); first
      | (refine Wd_isMv rfl ?_; refine Ymv eok rfl rfl (fun _ => rfl) rfl rfl ?_)
      | refine Yp eok rfl rfl (fun _ => rfl) rfl rfl ?_ ?_
      | refine Yq rfl rfl rfl rfl rfl ?_ ?_
      | refine Ys rfl rfl rfl rfl ?_
      | refine YF (c3) rfl rfl rfl rfl rfl ?_
      | refine YF (c4) rfl rfl rfl rfl rfl ?_
      | refine YF (c5) rfl rfl rfl rfl rfl ?_
      | refine Ya eok rfl rfl rfl rfl rfl rfl ?_ ?_
      | refine Yw eok rfl rfl rfl rfl rfl ?_ ?_
      | refine Yn [0, 1, 2, 3, 4, 5, 6, 7, 14, 32, 34] [] mixed eok (by kernel_rfl) True.intro rfl ?_
      | (refine Ysplit rfl rfl (fun hc => ?_) (fun hc => ?_) <;> (fail_if_success (with_reducible first | exact absurd (hc : true = false) (by decide) | exact absurd (hc : false = true) (by decide))) <;> (try simp only [decide_eq_true_eq, decide_eq_false_iff_not, Bool.not_eq_true', Bool.not_eq_false', beq_iff_eq, beq_eq_false_iff_ne, bne_iff_ne, bne_eq_false_iff_eq, ne_eq, Int.not_lt, Int.not_le, ge_iff_le, gt_iff_lt] at hc) <;> (try (exfalso; omega))))
     | refine W_seq ?_
     | refine W_region ?_
     | refine W_any T.get ?_
     | refine W_skip ?_
     | refine W_ret ?_
     | refine W_block ?_
     | refine W_exit ?_
     | refine W_cond_t rfl ?_
     | refine W_cond_f rfl ?_
     | (refine W_cond rfl (fun hc => ?_) (fun hc => ?_) <;> (try simp only [decide_eq_true_eq, decide_eq_false_iff_not, Bool.not_eq_true', Bool.not_eq_false', beq_iff_eq, beq_eq_false_iff_ne, bne_iff_ne, bne_eq_false_iff_eq, ne_eq, Int.not_lt, Int.not_le, ge_iff_le, gt_iff_lt] at hc) <;> (try (exfalso; omega))))
    refine ⟨_, _, rfl, rfl, ?_⟩; simp [Frz_tup, Frz_ag, Frzs_cons, Frzs_nil, Frz_d, Frz_e0, Frz_sl, sln, isSl, slOk, eT]
  · subst h
    rcases Int.lt_trichotomy v v' with h | h | h
    · have hO : orI (cmpI n n) (cmpI v v') = -1 := by simp [orI, cmpI, h]
      have eT : cmpT ⟨k, v, n, g⟩ ⟨k', v', n, g'⟩ = -1 := by simp [cmpT, h]
      rw [hO] at c5
      have nS := e
      repeat' (first
       | ((with_reducible refine sg ?_); first
        | with_reducible rfl
        | ((with_reducible refine fitG ?_); first | kernel_rfl | rfl | (simp [fitT, fitF, nS]; done))
        | with_reducible refine andT ?_ ?_
        | with_reducible exact Nat.beq_refl _
        | with_reducible exact fitsI_u8 _
        | ((with_reducible refine decide_eq_true ?_); first | omega | (simp only [SZl, nS]; omega))
        | decide
        | (simp [SZl, slc, allOneD, D.one, allOne, AV.one, nS]; done)
        | (simp [SZl, nS]; omega))
       | ((with_reducible refine gWl ?_); first
        | (refine Wl_isMv rfl ?_; refine Xmv eok rfl rfl rfl rfl ?_)
        | refine Xq eok rfl rfl rfl rfl ?_ ?_
        | refine Xn [0, 1, 2, 3, 4, 5, 6, 7, 14, 32, 34] rfl ?_
        | refine XF (c3) rfl rfl rfl rfl ?_
        | refine XF (c4) rfl rfl rfl rfl ?_
        | refine XF (c5) rfl rfl rfl rfl ?_
        | refine Xa eok rfl rfl rfl rfl rfl ?_ ?_
        | refine Xw eok rfl rfl rfl rfl ?_ ?_
        | refine Xs rfl rfl rfl ?_
        | (refine Xsplit rfl rfl (fun hc => ?_) (fun hc => ?_) <;> (fail_if_success (with_reducible first | exact absurd (hc : true = false) (by decide) | exact absurd (hc : false = true) (by decide))) <;> (try simp only [decide_eq_true_eq, decide_eq_false_iff_not, Bool.not_eq_true', Bool.not_eq_false', beq_iff_eq, beq_eq_false_iff_ne, bne_iff_ne, bne_eq_false_iff_eq, ne_eq, Int.not_lt, Int.not_le, ge_iff_le, gt_iff_lt] at hc) <;> (try (exfalso; omega))))
       | ((with_reducible refine gWd ?_); first
        | (refine Wd_isMv rfl ?_; refine Ymv eok rfl rfl (fun _ => rfl) rfl rfl ?_)
        | refine Yp eok rfl rfl (fun _ => rfl) rfl rfl ?_ ?_
        | refine Yq rfl rfl rfl rfl rfl ?_ ?_
        | refine Ys rfl rfl rfl rfl ?_
        | refine YF (c3) rfl rfl rfl rfl rfl ?_
        | refine YF (c4) rfl rfl rfl rfl rfl ?_
        | refine YF (c5) rfl rfl rfl rfl rfl ?_
        | refine Ya eok rfl rfl rfl rfl rfl rfl ?_ ?_
        | refine Yw eok rfl rfl rfl rfl rfl ?_ ?_
        | refine Yn [0, 1, 2, 3, 4, 5, 6, 7, 14, 32, 34] [] mixed eok (by kernel_rfl) True.intro rfl ?_
        | (refine Ysplit rfl rfl (fun hc => ?_) (fun hc => ?_) <;> (fail_if_success (with_reducible first | exact absurd (hc : true = false) (by decide) | exact absurd (hc : false = true) (by decide))) <;> (try simp only [decide_eq_true_eq, decide_eq_false_iff_not, Bool.not_eq_true', Bool.not_eq_false', beq_iff_eq, beq_eq_false_iff_ne, bne_iff_ne, bne_eq_false_iff_eq, ne_eq, Int.not_lt, Int.not_le, ge_iff_le, gt_iff_lt] at hc) <;> (try (exfalso; omega))))
       | refine W_seq ?_
       | refine W_region ?_
       | refine W_any T.get ?_
       | refine W_skip ?_
       | refine W_ret ?_
       | refine W_block ?_
       | refine W_exit ?_
       | refine W_cond_t rfl ?_
       | refine W_cond_f rfl ?_
       | (refine W_cond rfl (fun hc => ?_) (fun hc => ?_) <;> (try simp only [decide_eq_true_eq, decide_eq_false_iff_not, Bool.not_eq_true', Bool.not_eq_false', beq_iff_eq, beq_eq_false_iff_ne, bne_iff_ne, bne_eq_false_iff_eq, ne_eq, Int.not_lt, Int.not_le, ge_iff_le, gt_iff_lt] at hc) <;> (try (exfalso; omega))))
      refine ⟨_, _, rfl, rfl, ?_⟩; simp [Frz_tup, Frz_ag, Frzs_cons, Frzs_nil, Frz_d, Frz_e0, Frz_sl, sln, isSl, slOk, eT]
    · subst h
      have hg : ¬ g = g' := fun hg => hs ⟨rfl, rfl, hg⟩
      have hO : orI (cmpI n n) (cmpI v v) = 0 := by simp [orI, cmpI]
      rw [hO] at c5
      cases g with
      | true =>
        have eT : cmpT ⟨k, v, n, true⟩ ⟨k', v, n, g'⟩ = 1 := by simp [cmpT, hg]
        have nS := e
        repeat' (first
         | ((with_reducible refine sg ?_); first
          | with_reducible rfl
          | ((with_reducible refine fitG ?_); first | kernel_rfl | rfl | (simp [fitT, fitF, nS]; done))
          | with_reducible refine andT ?_ ?_
          | with_reducible exact Nat.beq_refl _
          | with_reducible exact fitsI_u8 _
          | ((with_reducible refine decide_eq_true ?_); first | omega | (simp only [SZl, nS]; omega))
          | decide
          | (simp [SZl, slc, allOneD, D.one, allOne, AV.one, nS]; done)
          | (simp [SZl, nS]; omega))
         | ((with_reducible refine gWl ?_); first
          | (refine Wl_isMv rfl ?_; refine Xmv eok rfl rfl rfl rfl ?_)
          | refine Xq eok rfl rfl rfl rfl ?_ ?_
          | refine Xn [0, 1, 2, 3, 4, 5, 6, 7, 14, 32, 34] rfl ?_
          | refine XF (c3) rfl rfl rfl rfl ?_
          | refine XF (c4) rfl rfl rfl rfl ?_
          | refine XF (c5) rfl rfl rfl rfl ?_
          | refine Xa eok rfl rfl rfl rfl rfl ?_ ?_
          | refine Xw eok rfl rfl rfl rfl ?_ ?_
          | refine Xs rfl rfl rfl ?_
          | (refine Xsplit rfl rfl (fun hc => ?_) (fun hc => ?_) <;> (fail_if_success (with_reducible first | exact absurd (hc : true = false) (by decide) | exact absurd (hc : false = true) (by decide))) <;> (try simp only [decide_eq_true_eq, decide_eq_false_iff_not, Bool.not_eq_true', Bool.not_eq_false', beq_iff_eq, beq_eq_false_iff_ne, bne_iff_ne, bne_eq_false_iff_eq, ne_eq, Int.not_lt, Int.not_le, ge_iff_le, gt_iff_lt] at hc) <;> (try (exfalso; omega))))
         | ((with_reducible refine gWd ?_); first
          | (refine Wd_isMv rfl ?_; refine Ymv eok rfl rfl (fun _ => rfl) rfl rfl ?_)
          | refine Yp eok rfl rfl (fun _ => rfl) rfl rfl ?_ ?_
          | refine Yq rfl rfl rfl rfl rfl ?_ ?_
          | refine Ys rfl rfl rfl rfl ?_
          | refine YF (c3) rfl rfl rfl rfl rfl ?_
          | refine YF (c4) rfl rfl rfl rfl rfl ?_
          | refine YF (c5) rfl rfl rfl rfl rfl ?_
          | refine Ya eok rfl rfl rfl rfl rfl rfl ?_ ?_
          | refine Yw eok rfl rfl rfl rfl rfl ?_ ?_
          | refine Yn [0, 1, 2, 3, 4, 5, 6, 7, 14, 32, 34] [] mixed eok (by kernel_rfl) True.intro rfl ?_
          | (refine Ysplit rfl rfl (fun hc => ?_) (fun hc => ?_) <;> (fail_if_success (with_reducible first | exact absurd (hc : true = false) (by decide) | exact absurd (hc : false = true) (by decide))) <;> (try simp only [decide_eq_true_eq, decide_eq_false_iff_not, Bool.not_eq_true', Bool.not_eq_false', beq_iff_eq, beq_eq_false_iff_ne, bne_iff_ne, bne_eq_false_iff_eq, ne_eq, Int.not_lt, Int.not_le, ge_iff_le, gt_iff_lt] at hc) <;> (try (exfalso; omega))))
         | refine W_seq ?_
         | refine W_region ?_
         | refine W_any T.get ?_
         | refine W_skip ?_
         | refine W_ret ?_
         | refine W_block ?_
         | refine W_exit ?_
         | refine W_cond_t rfl ?_
         | refine W_cond_f rfl ?_
         | (refine W_cond rfl (fun hc => ?_) (fun hc => ?_) <;> (try simp only [decide_eq_true_eq, decide_eq_false_iff_not, Bool.not_eq_true', Bool.not_eq_false', beq_iff_eq, beq_eq_false_iff_ne, bne_iff_ne, bne_eq_false_iff_eq, ne_eq, Int.not_lt, Int.not_le, ge_iff_le, gt_iff_lt] at hc) <;> (try (exfalso; omega))))
        refine ⟨_, _, rfl, rfl, ?_⟩; simp [Frz_tup, Frz_ag, Frzs_cons, Frzs_nil, Frz_d, Frz_e0, Frz_sl, sln, isSl, slOk, eT]
      | false =>
        have eT : cmpT ⟨k, v, n, false⟩ ⟨k', v, n, g'⟩ = -1 := by simp [cmpT, hg]
        have nS := e
        repeat' (first
         | ((with_reducible refine sg ?_); first
          | with_reducible rfl
          | ((with_reducible refine fitG ?_); first | kernel_rfl | rfl | (simp [fitT, fitF, nS]; done))
          | with_reducible refine andT ?_ ?_
          | with_reducible exact Nat.beq_refl _
          | with_reducible exact fitsI_u8 _
          | ((with_reducible refine decide_eq_true ?_); first | omega | (simp only [SZl, nS]; omega))
          | decide
          | (simp [SZl, slc, allOneD, D.one, allOne, AV.one, nS]; done)
          | (simp [SZl, nS]; omega))
         | ((with_reducible refine gWl ?_); first
          | (refine Wl_isMv rfl ?_; refine Xmv eok rfl rfl rfl rfl ?_)
          | refine Xq eok rfl rfl rfl rfl ?_ ?_
          | refine Xn [0, 1, 2, 3, 4, 5, 6, 7, 14, 32, 34] rfl ?_
          | refine XF (c3) rfl rfl rfl rfl ?_
          | refine XF (c4) rfl rfl rfl rfl ?_
          | refine XF (c5) rfl rfl rfl rfl ?_
          | refine Xa eok rfl rfl rfl rfl rfl ?_ ?_
          | refine Xw eok rfl rfl rfl rfl ?_ ?_
          | refine Xs rfl rfl rfl ?_
          | (refine Xsplit rfl rfl (fun hc => ?_) (fun hc => ?_) <;> (fail_if_success (with_reducible first | exact absurd (hc : true = false) (by decide) | exact absurd (hc : false = true) (by decide))) <;> (try simp only [decide_eq_true_eq, decide_eq_false_iff_not, Bool.not_eq_true', Bool.not_eq_false', beq_iff_eq, beq_eq_false_iff_ne, bne_iff_ne, bne_eq_false_iff_eq, ne_eq, Int.not_lt, Int.not_le, ge_iff_le, gt_iff_lt] at hc) <;> (try (exfalso; omega))))
         | ((with_reducible refine gWd ?_); first
          | (refine Wd_isMv rfl ?_; refine Ymv eok rfl rfl (fun _ => rfl) rfl rfl ?_)
          | refine Yp eok rfl rfl (fun _ => rfl) rfl rfl ?_ ?_
          | refine Yq rfl rfl rfl rfl rfl ?_ ?_
          | refine Ys rfl rfl rfl rfl ?_
          | refine YF (c3) rfl rfl rfl rfl rfl ?_
          | refine YF (c4) rfl rfl rfl rfl rfl ?_
          | refine YF (c5) rfl rfl rfl rfl rfl ?_
          | refine Ya eok rfl rfl rfl rfl rfl rfl ?_ ?_
          | refine Yw eok rfl rfl rfl rfl rfl ?_ ?_
          | refine Yn [0, 1, 2, 3, 4, 5, 6, 7, 14, 32, 34] [] mixed eok (by kernel_rfl) True.intro rfl ?_
          | (refine Ysplit rfl rfl (fun hc => ?_) (fun hc => ?_) <;> (fail_if_success (with_reducible first | exact absurd (hc : true = false) (by decide) | exact absurd (hc : false = true) (by decide))) <;> (try simp only [decide_eq_true_eq, decide_eq_false_iff_not, Bool.not_eq_true', Bool.not_eq_false', beq_iff_eq, beq_eq_false_iff_ne, bne_iff_ne, bne_eq_false_iff_eq, ne_eq, Int.not_lt, Int.not_le, ge_iff_le, gt_iff_lt] at hc) <;> (try (exfalso; omega))))
         | refine W_seq ?_
         | refine W_region ?_
         | refine W_any T.get ?_
         | refine W_skip ?_
         | refine W_ret ?_
         | refine W_block ?_
         | refine W_exit ?_
         | refine W_cond_t rfl ?_
         | refine W_cond_f rfl ?_
         | (refine W_cond rfl (fun hc => ?_) (fun hc => ?_) <;> (try simp only [decide_eq_true_eq, decide_eq_false_iff_not, Bool.not_eq_true', Bool.not_eq_false', beq_iff_eq, beq_eq_false_iff_ne, bne_iff_ne, bne_eq_false_iff_eq, ne_eq, Int.not_lt, Int.not_le, ge_iff_le, gt_iff_lt] at hc) <;> (try (exfalso; omega))))
        refine ⟨_, _, rfl, rfl, ?_⟩; simp [Frz_tup, Frz_ag, Frzs_cons, Frzs_nil, Frz_d, Frz_e0, Frz_sl, sln, isSl, slOk, eT]
    · have hO : orI (cmpI n n) (cmpI v v') = 1 := by simp [orI, cmpI, h, show ¬ v < v' by omega]
      have eT : cmpT ⟨k, v, n, g⟩ ⟨k', v', n, g'⟩ = 1 := by simp [cmpT, h, show ¬ v < v' by omega]
      rw [hO] at c5
      have nS := e
      repeat' (first
       | ((with_reducible refine sg ?_); first
        | with_reducible rfl
        | ((with_reducible refine fitG ?_); first | kernel_rfl | rfl | (simp [fitT, fitF, nS]; done))
        | with_reducible refine andT ?_ ?_
        | with_reducible exact Nat.beq_refl _
        | with_reducible exact fitsI_u8 _
        | ((with_reducible refine decide_eq_true ?_); first | omega | (simp only [SZl, nS]; omega))
        | decide
        | (simp [SZl, slc, allOneD, D.one, allOne, AV.one, nS]; done)
        | (simp [SZl, nS]; omega))
       | ((with_reducible refine gWl ?_); first
        | (refine Wl_isMv rfl ?_; refine Xmv eok rfl rfl rfl rfl ?_)
        | refine Xq eok rfl rfl rfl rfl ?_ ?_
        | refine Xn [0, 1, 2, 3, 4, 5, 6, 7, 14, 32, 34] rfl ?_
        | refine XF (c3) rfl rfl rfl rfl ?_
        | refine XF (c4) rfl rfl rfl rfl ?_
        | refine XF (c5) rfl rfl rfl rfl ?_
        | refine Xa eok rfl rfl rfl rfl rfl ?_ ?_
        | refine Xw eok rfl rfl rfl rfl ?_ ?_
        | refine Xs rfl rfl rfl ?_
        | (refine Xsplit rfl rfl (fun hc => ?_) (fun hc => ?_) <;> (fail_if_success (with_reducible first | exact absurd (hc : true = false) (by decide) | exact absurd (hc : false = true) (by decide))) <;> (try simp only [decide_eq_true_eq, decide_eq_false_iff_not, Bool.not_eq_true', Bool.not_eq_false', beq_iff_eq, beq_eq_false_iff_ne, bne_iff_ne, bne_eq_false_iff_eq, ne_eq, Int.not_lt, Int.not_le, ge_iff_le, gt_iff_lt] at hc) <;> (try (exfalso; omega))))
       | ((with_reducible refine gWd ?_); first
        | (refine Wd_isMv rfl ?_; refine Ymv eok rfl rfl (fun _ => rfl) rfl rfl ?_)
        | refine Yp eok rfl rfl (fun _ => rfl) rfl rfl ?_ ?_
        | refine Yq rfl rfl rfl rfl rfl ?_ ?_
        | refine Ys rfl rfl rfl rfl ?_
        | refine YF (c3) rfl rfl rfl rfl rfl ?_
        | refine YF (c4) rfl rfl rfl rfl rfl ?_
        | refine YF (c5) rfl rfl rfl rfl rfl ?_
        | refine Ya eok rfl rfl rfl rfl rfl rfl ?_ ?_
        | refine Yw eok rfl rfl rfl rfl rfl ?_ ?_
        | refine Yn [0, 1, 2, 3, 4, 5, 6, 7, 14, 32, 34] [] mixed eok (by kernel_rfl) True.intro rfl ?_
        | (refine Ysplit rfl rfl (fun hc => ?_) (fun hc => ?_) <;> (fail_if_success (with_reducible first | exact absurd (hc : true = false) (by decide) | exact absurd (hc : false = true) (by decide))) <;> (try simp only [decide_eq_true_eq, decide_eq_false_iff_not, Bool.not_eq_true', Bool.not_eq_false', beq_iff_eq, beq_eq_false_iff_ne, bne_iff_ne, bne_eq_false_iff_eq, ne_eq, Int.not_lt, Int.not_le, ge_iff_le, gt_iff_lt] at hc) <;> (try (exfalso; omega))))
       | refine W_seq ?_
       | refine W_region ?_
       | refine W_any T.get ?_
       | refine W_skip ?_
       | refine W_ret ?_
       | refine W_block ?_
       | refine W_exit ?_
       | refine W_cond_t rfl ?_
       | refine W_cond_f rfl ?_
       | (refine W_cond rfl (fun hc => ?_) (fun hc => ?_) <;> (try simp only [decide_eq_true_eq, decide_eq_false_iff_not, Bool.not_eq_true', Bool.not_eq_false', beq_iff_eq, beq_eq_false_iff_ne, bne_iff_ne, bne_eq_false_iff_eq, ne_eq, Int.not_lt, Int.not_le, ge_iff_le, gt_iff_lt] at hc) <;> (try (exfalso; omega))))
      refine ⟨_, _, rfl, rfl, ?_⟩; simp [Frz_tup, Frz_ag, Frzs_cons, Frzs_nil, Frz_d, Frz_e0, Frz_sl, sln, isSl, slOk, eT]
  · have hO : orI (cmpI n n') (cmpI v v') = 1 := by simp [orI, cmpI, h, show ¬ n < n' by omega]
    have eT : cmpT ⟨k, v, n, g⟩ ⟨k', v', n', g'⟩ = 1 := by simp [cmpT, h, show ¬ n < n' by omega]
    rw [hO] at c5
    have nS := e
    repeat' (first
     | ((with_reducible refine sg ?_); first
      | with_reducible rfl
      | ((with_reducible refine fitG ?_); first | kernel_rfl | rfl | (simp [fitT, fitF, nS]; done))
      | with_reducible refine andT ?_ ?_
      | with_reducible exact Nat.beq_refl _
      | with_reducible exact fitsI_u8 _
      | ((with_reducible refine decide_eq_true ?_); first | omega | (simp only [SZl, nS]; omega))
      | decide
      | (simp [SZl, slc, allOneD, D.one, allOne, AV.one, nS]; done)
      | (simp [SZl, nS]; omega))
     | ((with_reducible refine gWl ?_); first
      | (refine Wl_isMv rfl ?_; refine Xmv eok rfl rfl rfl rfl ?_)
      | refine Xq eok rfl rfl rfl rfl ?_ ?_
      | refine Xn [0, 1, 2, 3, 4, 5, 6, 7, 14, 32, 34] rfl ?_
      | refine XF (c3) rfl rfl rfl rfl ?_
      | refine XF (c4) rfl rfl rfl rfl ?_
      | refine XF (c5) rfl rfl rfl rfl ?_
      | refine Xa eok rfl rfl rfl rfl rfl ?_ ?_
      | refine Xw eok rfl rfl rfl rfl ?_ ?_
      | refine Xs rfl rfl rfl ?_
      | (refine Xsplit rfl rfl (fun hc => ?_) (fun hc => ?_) <;> (fail_if_success (with_reducible first | exact absurd (hc : true = false) (by decide) | exact absurd (hc : false = true) (by decide))) <;> (try simp only [decide_eq_true_eq, decide_eq_false_iff_not, Bool.not_eq_true', Bool.not_eq_false', beq_iff_eq, beq_eq_false_iff_ne, bne_iff_ne, bne_eq_false_iff_eq, ne_eq, Int.not_lt, Int.not_le, ge_iff_le, gt_iff_lt] at hc) <;> (try (exfalso; omega))))
     | ((with_reducible refine gWd ?_); first
      | (refine Wd_isMv rfl ?_; refine Ymv eok rfl rfl (fun _ => rfl) rfl rfl ?_)
      | refine Yp eok rfl rfl (fun _ => rfl) rfl rfl ?_ ?_
      | refine Yq rfl rfl rfl rfl rfl ?_ ?_
      | refine Ys rfl rfl rfl rfl ?_
      | refine YF (c3) rfl rfl rfl rfl rfl ?_
      | refine YF (c4) rfl rfl rfl rfl rfl ?_
      | refine YF (c5) rfl rfl rfl rfl rfl ?_
      | refine Ya eok rfl rfl rfl rfl rfl rfl ?_ ?_
      | refine Yw eok rfl rfl rfl rfl rfl ?_ ?_
      | refine Yn [0, 1, 2, 3, 4, 5, 6, 7, 14, 32, 34] [] mixed eok (by kernel_rfl) True.intro rfl ?_
      | (refine Ysplit rfl rfl (fun hc => ?_) (fun hc => ?_) <;> (fail_if_success (with_reducible first | exact absurd (hc : true = false) (by decide) | exact absurd (hc : false = true) (by decide))) <;> (try simp only [decide_eq_true_eq, decide_eq_false_iff_not, Bool.not_eq_true', Bool.not_eq_false', beq_iff_eq, beq_eq_false_iff_ne, bne_iff_ne, bne_eq_false_iff_eq, ne_eq, Int.not_lt, Int.not_le, ge_iff_le, gt_iff_lt] at hc) <;> (try (exfalso; omega))))
     | refine W_seq ?_
     | refine W_region ?_
     | refine W_any T.get ?_
     | refine W_skip ?_
     | refine W_ret ?_
     | refine W_block ?_
     | refine W_exit ?_
     | refine W_cond_t rfl ?_
     | refine W_cond_f rfl ?_
     | (refine W_cond rfl (fun hc => ?_) (fun hc => ?_) <;> (try simp only [decide_eq_true_eq, decide_eq_false_iff_not, Bool.not_eq_true', Bool.not_eq_false', beq_iff_eq, beq_eq_false_iff_ne, bne_iff_ne, bne_eq_false_iff_eq, ne_eq, Int.not_lt, Int.not_le, ge_iff_le, gt_iff_lt] at hc) <;> (try (exfalso; omega))))
    refine ⟨_, _, rfl, rfl, ?_⟩; simp [Frz_tup, Frz_ag, Frzs_cons, Frzs_nil, Frz_d, Frz_e0, Frz_sl, sln, isSl, slOk, eT]

theorem Newer_fn (x y : Item) : Go.Gar.Fn Try.prog 24 [x.d, y.d] (.b (decide (cmpT x y > 0))) := by
  have c := Cmp_fn x y
  refine Fn_of_W eok Try.func24 rfl rfl (Nat.le_of_ble_eq_true rfl) ?_
  have nS := True.intro
  repeat' (first
   | ((with_reducible refine sg ?_); first
    | with_reducible rfl
    | ((with_reducible refine fitG ?_); first | kernel_rfl | rfl | (simp [fitT, fitF, nS]; done))
    | with_reducible refine andT ?_ ?_
    | with_reducible exact Nat.beq_refl _
    | with_reducible exact fitsI_u8 _
    | ((with_reducible refine decide_eq_true ?_); first | omega | (simp only [SZl, nS]; omega))
    | decide
    | (simp [SZl, slc, allOneD, D.one, allOne, AV.one, nS]; done)
    | (simp [SZl, nS]; omega))
   | ((with_reducible refine gWl ?_); first
    | (refine Wl_isMv rfl ?_; refine Xmv eok rfl rfl rfl rfl ?_)
    | refine Xq eok rfl rfl rfl rfl ?_ ?_
    | refine Xn [0, 1, 2, 3, 4] rfl ?_
    | refine XF (c) rfl rfl rfl rfl ?_
    | refine Xa eok rfl rfl rfl rfl rfl ?_ ?_)
   | refine W_seq ?_
   | refine W_region ?_
   | refine W_skip ?_
   | refine W_ret ?_
   | refine W_block ?_
   | refine W_exit ?_
   | refine W_cond_t rfl ?_
   | refine W_cond_f rfl ?_
   | (refine W_cond rfl (fun hc => ?_) (fun hc => ?_) <;> (try simp only [decide_eq_true_eq, decide_eq_false_iff_not, Bool.not_eq_true', Bool.not_eq_false', beq_iff_eq, beq_eq_false_iff_ne, bne_iff_ne, bne_eq_false_iff_eq, ne_eq, Int.not_lt, Int.not_le, ge_iff_le, gt_iff_lt] at hc) <;> (try (exfalso; omega))))
  refine ⟨_, _, rfl, rfl, ?_⟩; simp [Frz_tup, Frz_ag, Frzs_cons, Frzs_nil, Frz_d, Frz_e0, Frz_sl, sln, isSl, slOk]
def goneT (x : Item) : Item := ⟨x.key, 0, if x.version < 1048576 then x.version + 1 else x.version, true⟩
theorem Gone_fn (x : Item) (h : -9223372036854775808 ≤ x.version) : Go.Gar.Fn Try.prog 26 [x.d] (goneT x).d := by
  obtain ⟨k, v, n, g⟩ := x
  replace h : -9223372036854775808 ≤ n := h
  refine Fn_of_W eok Try.func26 rfl rfl (Nat.le_of_ble_eq_true rfl) ?_
  by_cases hn : n < 1048576
  · have e : goneT ⟨k, v, n, g⟩ = ⟨k, 0, n + 1, true⟩ := by simp [goneT, hn]
    rw [e]
    have nS := True.intro
    repeat' (first
     | ((with_reducible refine sg ?_); first
      | with_reducible rfl
      | ((with_reducible refine fitG ?_); first | kernel_rfl | rfl | (simp [fitT, fitF, nS]; done))
      | with_reducible refine andT ?_ ?_
      | with_reducible exact Nat.beq_refl _
      | with_reducible exact fitsI_u8 _
      | ((with_reducible refine decide_eq_true ?_); first | omega | (simp only [SZl, nS]; omega))
      | decide
      | (simp [SZl, slc, allOneD, D.one, allOne, AV.one, nS]; done)
      | (simp [SZl, nS]; omega))
     | ((with_reducible refine gWl ?_); first
      | (refine Wl_isMv rfl ?_; refine Xmv eok rfl rfl rfl rfl ?_)
      | refine Xq eok rfl rfl rfl rfl ?_ ?_
      | refine Xn [0, 1, 2, 5] rfl ?_
      | refine Xa eok rfl rfl rfl rfl rfl ?_ ?_
      | refine Xw eok rfl rfl rfl rfl ?_ ?_)
     | refine W_seq ?_
     | refine W_region ?_
     | refine W_skip ?_
     | refine W_ret ?_
     | refine W_block ?_
     | refine W_exit ?_
     | refine W_cond_t rfl ?_
     | refine W_cond_f rfl ?_
     | (refine W_cond rfl (fun hc => ?_) (fun hc => ?_) <;> (try simp only [decide_eq_true_eq, decide_eq_false_iff_not, Bool.not_eq_true', Bool.not_eq_false', beq_iff_eq, beq_eq_false_iff_ne, bne_iff_ne, bne_eq_false_iff_eq, ne_eq, Int.not_lt, Int.not_le, ge_iff_le, gt_iff_lt] at hc) <;> (try (exfalso; omega))))
    refine ⟨_, _, rfl, rfl, ?_⟩; simp [Frz_tup, Frz_ag, Frzs_cons, Frzs_nil, Frz_d, Frz_e0, Frz_sl, sln, isSl, slOk, Item.d, Item.cells]
  · have e : goneT ⟨k, v, n, g⟩ = ⟨k, 0, n, true⟩ := by simp [goneT, hn]
    rw [e]
    have nS := True.intro
    repeat' (first
     | ((with_reducible refine sg ?_); first
      | with_reducible rfl
      | ((with_reducible refine fitG ?_); first | kernel_rfl | rfl | (simp [fitT, fitF, nS]; done))
      | with_reducible refine andT ?_ ?_
      | with_reducible exact Nat.beq_refl _
      | with_reducible exact fitsI_u8 _
      | ((with_reducible refine decide_eq_true ?_); first | omega | (simp only [SZl, nS]; omega))
      | decide
      | (simp [SZl, slc, allOneD, D.one, allOne, AV.one, nS]; done)
      | (simp [SZl, nS]; omega))
     | ((with_reducible refine gWl ?_); first
      | (refine Wl_isMv rfl ?_; refine Xmv eok rfl rfl rfl rfl ?_)
      | refine Xq eok rfl rfl rfl rfl ?_ ?_
      | refine Xn [0, 1, 2, 5] rfl ?_
      | refine Xa eok rfl rfl rfl rfl rfl ?_ ?_
      | refine Xw eok rfl rfl rfl rfl ?_ ?_)
     | refine W_seq ?_
     | refine W_region ?_
     | refine W_skip ?_
     | refine W_ret ?_
     | refine W_block ?_
     | refine W_exit ?_
     | refine W_cond_t rfl ?_
     | refine W_cond_f rfl ?_
     | (refine W_cond rfl (fun hc => ?_) (fun hc => ?_) <;> (try simp only [decide_eq_true_eq, decide_eq_false_iff_not, Bool.not_eq_true', Bool.not_eq_false', beq_iff_eq, beq_eq_false_iff_ne, bne_iff_ne, bne_eq_false_iff_eq, ne_eq, Int.not_lt, Int.not_le, ge_iff_le, gt_iff_lt] at hc) <;> (try (exfalso; omega))))
    refine ⟨_, _, rfl, rfl, ?_⟩; simp [Frz_tup, Frz_ag, Frzs_cons, Frzs_nil, Frz_d, Frz_e0, Frz_sl, sln, isSl, slOk, Item.d, Item.cells]
/-- May be. -/
def Item.may (x : Item) : Bool := decide (1 ≤ x.key.length) && decide (x.key.length ≤ 20) && decide (0 ≤ x.value) && decide (x.value ≤ 1048576) && decide (0 ≤ x.version) && decide (x.version ≤ 1048576)
theorem may_iff (x : Item) : x.may = true ↔ (1 ≤ x.key.length ∧ x.key.length ≤ 20) ∧ (0 ≤ x.value ∧ x.value ≤ 1048576) ∧ (0 ≤ x.version ∧ x.version ≤ 1048576) := by
  simp only [Item.may, Bool.and_eq_true, decide_eq_true_eq]
  constructor
  · rintro ⟨⟨⟨⟨⟨h1, h2⟩, h3⟩, h4⟩, h5⟩, h6⟩; exact ⟨⟨h1, h2⟩, ⟨h3, h4⟩, h5, h6⟩
  · rintro ⟨⟨h1, h2⟩, ⟨h3, h4⟩, h5, h6⟩; exact ⟨⟨⟨⟨⟨h1, h2⟩, h3⟩, h4⟩, h5⟩, h6⟩
theorem may_false {x : Item} (h : ¬ x.may = true) : x.may = false := by simpa using h
theorem isKey_fn (s : List UInt8) : Go.Gar.Fn Try.prog 83 [.s s] (.b (decide (1 ≤ s.length ∧ s.length ≤ 20))) := by
  refine Fn_of_W eok Try.func83 rfl rfl (Nat.le_of_ble_eq_true rfl) ?_
  by_cases h1 : 1 ≤ s.length
  · have f1 : decide ((s.length : Int) ≥ 1) = true := decide_eq_true (by omega)
    by_cases h2 : s.length ≤ 20
    · have f2 : decide ((s.length : Int) ≤ 20) = true := decide_eq_true (by omega)
      rw [decide_eq_true (show 1 ≤ s.length ∧ s.length ≤ 20 from ⟨h1, h2⟩)]
      have nS := And.intro f1 f2
      repeat' (first
       | ((with_reducible refine sg ?_); first
        | with_reducible rfl
        | ((with_reducible refine fitG ?_); first | kernel_rfl | rfl | (simp [fitT, fitF, nS]; done))
        | with_reducible refine andT ?_ ?_
        | with_reducible exact Nat.beq_refl _
        | with_reducible exact fitsI_u8 _
        | ((with_reducible refine decide_eq_true ?_); first | omega | (simp only [SZl, nS]; omega))
        | decide
        | (simp [SZl, slc, allOneD, D.one, allOne, AV.one, nS]; done)
        | (simp [SZl, nS]; omega))
       | ((with_reducible refine gWl ?_); first
        | (refine Wl_isMv rfl ?_; refine Xmv eok rfl rfl rfl rfl ?_)
        | refine Xq eok rfl rfl rfl rfl ?_ ?_
        | refine Xn [0, 2] rfl ?_
        | refine Xs rfl rfl rfl ?_
        | (refine Xsplit rfl rfl (fun hc => ?_) (fun hc => ?_) <;> (fail_if_success (with_reducible first | exact absurd (hc : true = false) (by decide) | exact absurd (hc : false = true) (by decide))) <;> (try simp only [decide_eq_true_eq, decide_eq_false_iff_not, Bool.not_eq_true', Bool.not_eq_false', beq_iff_eq, beq_eq_false_iff_ne, bne_iff_ne, bne_eq_false_iff_eq, ne_eq, Int.not_lt, Int.not_le, ge_iff_le, gt_iff_lt] at hc) <;> (try (exfalso; omega))))
       | refine W_seq ?_
       | refine W_region ?_
       | refine W_skip ?_
       | refine W_ret ?_
       | refine W_block ?_
       | refine W_exit ?_
       | refine W_cond_t rfl ?_
       | refine W_cond_f rfl ?_
       | (refine W_cond rfl (fun hc => ?_) (fun hc => ?_) <;> (try simp only [decide_eq_true_eq, decide_eq_false_iff_not, Bool.not_eq_true', Bool.not_eq_false', beq_iff_eq, beq_eq_false_iff_ne, bne_iff_ne, bne_eq_false_iff_eq, ne_eq, Int.not_lt, Int.not_le, ge_iff_le, gt_iff_lt] at hc) <;> (try (exfalso; omega))))
      refine ⟨_, _, rfl, rfl, ?_⟩; simp [Frz_tup, Frz_ag, Frzs_cons, Frzs_nil, Frz_d, Frz_e0, Frz_sl, sln, isSl, slOk]
    · have f2 : decide ((s.length : Int) ≤ 20) = false := decide_eq_false (by omega)
      rw [decide_eq_false (show ¬ (1 ≤ s.length ∧ s.length ≤ 20) from fun h => h2 h.2)]
      have nS := And.intro f1 f2
      repeat' (first
       | ((with_reducible refine sg ?_); first
        | with_reducible rfl
        | ((with_reducible refine fitG ?_); first | kernel_rfl | rfl | (simp [fitT, fitF, nS]; done))
        | with_reducible refine andT ?_ ?_
        | with_reducible exact Nat.beq_refl _
        | with_reducible exact fitsI_u8 _
        | ((with_reducible refine decide_eq_true ?_); first | omega | (simp only [SZl, nS]; omega))
        | decide
        | (simp [SZl, slc, allOneD, D.one, allOne, AV.one, nS]; done)
        | (simp [SZl, nS]; omega))
       | ((with_reducible refine gWl ?_); first
        | (refine Wl_isMv rfl ?_; refine Xmv eok rfl rfl rfl rfl ?_)
        | refine Xq eok rfl rfl rfl rfl ?_ ?_
        | refine Xn [0, 2] rfl ?_
        | refine Xs rfl rfl rfl ?_
        | (refine Xsplit rfl rfl (fun hc => ?_) (fun hc => ?_) <;> (fail_if_success (with_reducible first | exact absurd (hc : true = false) (by decide) | exact absurd (hc : false = true) (by decide))) <;> (try simp only [decide_eq_true_eq, decide_eq_false_iff_not, Bool.not_eq_true', Bool.not_eq_false', beq_iff_eq, beq_eq_false_iff_ne, bne_iff_ne, bne_eq_false_iff_eq, ne_eq, Int.not_lt, Int.not_le, ge_iff_le, gt_iff_lt] at hc) <;> (try (exfalso; omega))))
       | refine W_seq ?_
       | refine W_region ?_
       | refine W_skip ?_
       | refine W_ret ?_
       | refine W_block ?_
       | refine W_exit ?_
       | refine W_cond_t rfl ?_
       | refine W_cond_f rfl ?_
       | (refine W_cond rfl (fun hc => ?_) (fun hc => ?_) <;> (try simp only [decide_eq_true_eq, decide_eq_false_iff_not, Bool.not_eq_true', Bool.not_eq_false', beq_iff_eq, beq_eq_false_iff_ne, bne_iff_ne, bne_eq_false_iff_eq, ne_eq, Int.not_lt, Int.not_le, ge_iff_le, gt_iff_lt] at hc) <;> (try (exfalso; omega))))
      refine ⟨_, _, rfl, rfl, ?_⟩; simp [Frz_tup, Frz_ag, Frzs_cons, Frzs_nil, Frz_d, Frz_e0, Frz_sl, sln, isSl, slOk]
  · have f1 : decide ((s.length : Int) ≥ 1) = false := decide_eq_false (by omega)
    rw [decide_eq_false (show ¬ (1 ≤ s.length ∧ s.length ≤ 20) from fun h => h1 h.1)]
    have nS := f1
    repeat' (first
     | ((with_reducible refine sg ?_); first
      | with_reducible rfl
      | ((with_reducible refine fitG ?_); first | kernel_rfl | rfl | (simp [fitT, fitF, nS]; done))
      | with_reducible refine andT ?_ ?_
      | with_reducible exact Nat.beq_refl _
      | with_reducible exact fitsI_u8 _
      | ((with_reducible refine decide_eq_true ?_); first | omega | (simp only [SZl, nS]; omega))
      | decide
      | (simp [SZl, slc, allOneD, D.one, allOne, AV.one, nS]; done)
      | (simp [SZl, nS]; omega))
     | ((with_reducible refine gWl ?_); first
      | (refine Wl_isMv rfl ?_; refine Xmv eok rfl rfl rfl rfl ?_)
      | refine Xq eok rfl rfl rfl rfl ?_ ?_
      | refine Xn [0, 2] rfl ?_
      | refine Xs rfl rfl rfl ?_
      | (refine Xsplit rfl rfl (fun hc => ?_) (fun hc => ?_) <;> (fail_if_success (with_reducible first | exact absurd (hc : true = false) (by decide) | exact absurd (hc : false = true) (by decide))) <;> (try simp only [decide_eq_true_eq, decide_eq_false_iff_not, Bool.not_eq_true', Bool.not_eq_false', beq_iff_eq, beq_eq_false_iff_ne, bne_iff_ne, bne_eq_false_iff_eq, ne_eq, Int.not_lt, Int.not_le, ge_iff_le, gt_iff_lt] at hc) <;> (try (exfalso; omega))))
     | refine W_seq ?_
     | refine W_region ?_
     | refine W_skip ?_
     | refine W_ret ?_
     | refine W_block ?_
     | refine W_exit ?_
     | refine W_cond_t rfl ?_
     | refine W_cond_f rfl ?_
     | (refine W_cond rfl (fun hc => ?_) (fun hc => ?_) <;> (try simp only [decide_eq_true_eq, decide_eq_false_iff_not, Bool.not_eq_true', Bool.not_eq_false', beq_iff_eq, beq_eq_false_iff_ne, bne_iff_ne, bne_eq_false_iff_eq, ne_eq, Int.not_lt, Int.not_le, ge_iff_le, gt_iff_lt] at hc) <;> (try (exfalso; omega))))
    refine ⟨_, _, rfl, rfl, ?_⟩; simp [Frz_tup, Frz_ag, Frzs_cons, Frzs_nil, Frz_d, Frz_e0, Frz_sl, sln, isSl, slOk]
theorem isValue_fn (n : Int) : Go.Gar.Fn Try.prog 84 [.i .i64 n] (.b (decide (0 ≤ n ∧ n ≤ 1048576))) := by
  refine Fn_of_W eok Try.func84 rfl rfl (Nat.le_of_ble_eq_true rfl) ?_
  have nS := True.intro
  repeat' (first
   | ((with_reducible refine sg ?_); first
    | with_reducible rfl
    | ((with_reducible refine fitG ?_); first | kernel_rfl | rfl | (simp [fitT, fitF, nS]; done))
    | with_reducible refine andT ?_ ?_
    | with_reducible exact Nat.beq_refl _
    | with_reducible exact fitsI_u8 _
    | ((with_reducible refine decide_eq_true ?_); first | omega | (simp only [SZl, nS]; omega))
    | decide
    | (simp [SZl, slc, allOneD, D.one, allOne, AV.one, nS]; done)
    | (simp [SZl, nS]; omega))
   | ((with_reducible refine gWl ?_); first
    | (refine Wl_isMv rfl ?_; refine Xmv eok rfl rfl rfl rfl ?_)
    | refine Xq eok rfl rfl rfl rfl ?_ ?_
    | refine Xn [0, 2] rfl ?_
    | refine Xs rfl rfl rfl ?_
    | (refine Xsplit rfl rfl (fun hc => ?_) (fun hc => ?_) <;> (fail_if_success (with_reducible first | exact absurd (hc : true = false) (by decide) | exact absurd (hc : false = true) (by decide))) <;> (try simp only [decide_eq_true_eq, decide_eq_false_iff_not, Bool.not_eq_true', Bool.not_eq_false', beq_iff_eq, beq_eq_false_iff_ne, bne_iff_ne, bne_eq_false_iff_eq, ne_eq, Int.not_lt, Int.not_le, ge_iff_le, gt_iff_lt] at hc) <;> (try (exfalso; omega))))
   | refine W_seq ?_
   | refine W_region ?_
   | refine W_skip ?_
   | refine W_ret ?_
   | refine W_block ?_
   | refine W_exit ?_
   | refine W_cond_t rfl ?_
   | refine W_cond_f rfl ?_
   | (refine W_cond rfl (fun hc => ?_) (fun hc => ?_) <;> (try simp only [decide_eq_true_eq, decide_eq_false_iff_not, Bool.not_eq_true', Bool.not_eq_false', beq_iff_eq, beq_eq_false_iff_ne, bne_iff_ne, bne_eq_false_iff_eq, ne_eq, Int.not_lt, Int.not_le, ge_iff_le, gt_iff_lt] at hc) <;> (try (exfalso; omega))))
  all_goals (refine ⟨_, _, rfl, rfl, ?_⟩; simp_all [Frz] <;> omega)
theorem Pair_fn (x : Item) : Go.Gar.Fn Try.prog 52 [x.d] (.b x.may) := by
  obtain ⟨k, v, n, g⟩ := x
  have c1 := isKey_fn k
  have c2 := isValue_fn v
  have c3 := isValue_fn n
  have hm := may_iff ⟨k, v, n, g⟩
  refine Fn_of_W eok Try.func52 rfl rfl (Nat.le_of_ble_eq_true rfl) ?_
  have nS := True.intro
  repeat' (first
   | ((with_reducible refine sg ?_); first
    | with_reducible rfl
    | ((with_reducible refine fitG ?_); first | kernel_rfl | rfl | (simp [fitT, fitF, nS]; done))
    | with_reducible refine andT ?_ ?_
    | with_reducible exact Nat.beq_refl _
    | with_reducible exact fitsI_u8 _
    | ((with_reducible refine decide_eq_true ?_); first | omega | (simp only [SZl, nS]; omega))
    | decide
    | (simp [SZl, slc, allOneD, D.one, allOne, AV.one, nS]; done)
    | (simp [SZl, nS]; omega))
   | ((with_reducible refine gWl ?_); first
    | (refine Wl_isMv rfl ?_; refine Xmv eok rfl rfl rfl rfl ?_)
    | refine Xq eok rfl rfl rfl rfl ?_ ?_
    | refine Xn [0, 1, 2] rfl ?_
    | refine XF (c1) rfl rfl rfl rfl ?_
    | refine XF (c2) rfl rfl rfl rfl ?_
    | refine XF (c3) rfl rfl rfl rfl ?_
    | refine Xa eok rfl rfl rfl rfl rfl ?_ ?_
    | refine Xs rfl rfl rfl ?_
    | (refine Xsplit rfl rfl (fun hc => ?_) (fun hc => ?_) <;> (fail_if_success (with_reducible first | exact absurd (hc : true = false) (by decide) | exact absurd (hc : false = true) (by decide))) <;> (try simp only [decide_eq_true_eq, decide_eq_false_iff_not, Bool.not_eq_true', Bool.not_eq_false', beq_iff_eq, beq_eq_false_iff_ne, bne_iff_ne, bne_eq_false_iff_eq, ne_eq, Int.not_lt, Int.not_le, ge_iff_le, gt_iff_lt] at hc) <;> (try (exfalso; omega))))
   | refine W_seq ?_
   | refine W_region ?_
   | refine W_skip ?_
   | refine W_ret ?_
   | refine W_block ?_
   | refine W_exit ?_
   | refine W_cond_t rfl ?_
   | refine W_cond_f rfl ?_
   | (refine W_cond rfl (fun hc => ?_) (fun hc => ?_) <;> (try simp only [decide_eq_true_eq, decide_eq_false_iff_not, Bool.not_eq_true', Bool.not_eq_false', beq_iff_eq, beq_eq_false_iff_ne, bne_iff_ne, bne_eq_false_iff_eq, ne_eq, Int.not_lt, Int.not_le, ge_iff_le, gt_iff_lt] at hc) <;> (try (exfalso; omega))))
  all_goals (refine ⟨_, _, rfl, rfl, ?_⟩; simp_all [Frz, Item.may] <;> omega)
theorem rPair_fn (x : Item) : Go.Gar.Fn Try.prog 28 [x.d] (.b x.may) := by
  obtain ⟨k, v, n, g⟩ := x
  refine Fn_of_W eok Try.func28 rfl rfl (Nat.le_of_ble_eq_true rfl) ?_
  have nS := True.intro
  repeat' (first
   | ((with_reducible refine sg ?_); first
    | with_reducible rfl
    | ((with_reducible refine fitG ?_); first | kernel_rfl | rfl | (simp [fitT, fitF, nS]; done))
    | with_reducible refine andT ?_ ?_
    | with_reducible exact Nat.beq_refl _
    | with_reducible exact fitsI_u8 _
    | ((with_reducible refine decide_eq_true ?_); first | omega | (simp only [SZl, nS]; omega))
    | decide
    | (simp [SZl, slc, allOneD, D.one, allOne, AV.one, nS]; done)
    | (simp [SZl, nS]; omega))
   | ((with_reducible refine gWl ?_); first
    | (refine Wl_isMv rfl ?_; refine Xmv eok rfl rfl rfl rfl ?_)
    | refine Xq eok rfl rfl rfl rfl ?_ ?_
    | refine Xn [0, 1, 2] rfl ?_
    | refine Xa eok rfl rfl rfl rfl rfl ?_ ?_
    | refine Xs rfl rfl rfl ?_
    | (refine Xsplit rfl rfl (fun hc => ?_) (fun hc => ?_) <;> (fail_if_success (with_reducible first | exact absurd (hc : true = false) (by decide) | exact absurd (hc : false = true) (by decide))) <;> (try simp only [decide_eq_true_eq, decide_eq_false_iff_not, Bool.not_eq_true', Bool.not_eq_false', beq_iff_eq, beq_eq_false_iff_ne, bne_iff_ne, bne_eq_false_iff_eq, ne_eq, Int.not_lt, Int.not_le, ge_iff_le, gt_iff_lt] at hc) <;> (try (exfalso; omega))))
   | refine W_seq ?_
   | refine W_region ?_
   | refine W_skip ?_
   | refine W_ret ?_
   | refine W_block ?_
   | refine W_exit ?_
   | refine W_cond_t rfl ?_
   | refine W_cond_f rfl ?_
   | (refine W_cond rfl (fun hc => ?_) (fun hc => ?_) <;> (try simp only [decide_eq_true_eq, decide_eq_false_iff_not, Bool.not_eq_true', Bool.not_eq_false', beq_iff_eq, beq_eq_false_iff_ne, bne_iff_ne, bne_eq_false_iff_eq, ne_eq, Int.not_lt, Int.not_le, ge_iff_le, gt_iff_lt] at hc) <;> (try (exfalso; omega))))
  all_goals (refine ⟨_, _, rfl, rfl, ?_⟩; simp_all [Frz, Item.may] <;> omega)
end Go.Proofs.Ytflikcmbbljgeaa
