/- Written by a program (pre.py) from the source of the same name. -/
/- Pairs: the law that who takes away is newer. -/
import Derived.Test.YtflikcmbbljgeaaItem7
set_option linter.unusedSimpArgs false
set_option linter.unusedVariables false
set_option linter.unnecessarySimpa false
namespace Go.Proofs.Ytflikcmbbljgeaa
open Go.Gar
set_option maxRecDepth 4000

set_option maxHeartbeats 8000000 in
theorem itemGone_fn (x : Item) (hw : -9223372036854775808 ≤ x.version) : Go.Gar.Fn Try.prog 6 [x.d] (.b true) := by
  have cG := great_fn [x]
  have cN := Gone_fn x hw
  have cP := rPair_fn x
  have cQ := rPair_fn (goneT x)
  have cC := Newer_fn (goneT x) x
  obtain ⟨k, v, n, g⟩ := x
  replace hw : -9223372036854775808 ≤ n := hw
  cases hg : greatI [⟨k, v, n, g⟩] with
  | true =>
    rw [hg] at cG
    refine Fn_of_W eok Try.func6 rfl rfl (Nat.le_of_ble_eq_true rfl) ?_
    have nS := True.intro
    repeat' (first | ((with_reducible refine sg ?_); first | with_reducible rfl | ((with_reducible refine fitG ?_); first | kernel_rfl | rfl | (simp [fitT, fitF, nS]; done)) | with_reducible refine andT ?_ ?_ | with_reducible exact Nat.beq_refl _ | with_reducible exact fitsI_u8 _ | ((with_reducible refine decide_eq_true ?_); first | omega | (simp only [SZl, nS]; omega)) | decide | (simp [SZl, slc, allOneD, D.one, allOne, AV.one, nS]; done) | (simp [SZl, nS]; omega)) | ((with_reducible refine gWl ?_); first | (refine Wl_isMv rfl ?_; refine Xmv eok rfl rfl rfl rfl ?_) | refine Xq eok rfl rfl rfl rfl ?_ ?_ | refine Xn [0, 1, 2, 3, 6, 33] rfl ?_ | refine XF (cG) rfl rfl rfl rfl ?_ | refine XF (wakes_fn) rfl rfl rfl rfl ?_ | refine Xa eok rfl rfl rfl rfl rfl ?_ ?_ | refine Xw eok rfl rfl rfl rfl ?_ ?_ | refine Xs rfl rfl rfl ?_ | (refine Xsplit rfl rfl (fun hc => ?_) (fun hc => ?_) <;> (fail_if_success (with_reducible first | exact tF hc | exact fT hc)) <;> (try simp only [HCl] at hc) <;> (try (exfalso; omega)))) | refine W_seq ?_ | refine W_region ?_ | refine W_skip ?_ | refine W_ret ?_ | refine W_block ?_ | refine W_exit ?_ | refine W_cond_t rfl ?_ | refine W_cond_f rfl ?_ | (refine W_cond rfl (fun hc => ?_) (fun hc => ?_) <;> (try simp only [HCl] at hc) <;> (try (exfalso; omega))))
    refine ⟨_, _, rfl, rfl, ?_⟩; simp [Frz_tup, Frz_ag, Frzs_cons, Frzs_nil, Frz_d, Frz_e0, Frz_sl, sln, isSl, slOk]
  | false =>
    rw [hg] at cG
    have hPQ : (Item.may ⟨k, v, n, g⟩) = true → (goneT ⟨k, v, n, g⟩).may = true := by
      intro h
      rw [may_iff] at h ⊢
      obtain ⟨h1, h2, h3⟩ := h
      refine ⟨h1, ⟨Int.le_refl 0, show (0 : Int) ≤ 1048576 by decide⟩, ?_⟩
      simp only [goneT]
      replace h3 : 0 ≤ n ∧ n ≤ 1048576 := h3
      split <;> omega
    by_cases hn : n < 1048576
    · have e : goneT ⟨k, v, n, g⟩ = ⟨k, 0, n + 1, true⟩ := by simp [goneT, hn]
      rw [e] at cN cQ cC hPQ
      have hc : decide (cmpT ⟨k, 0, n + 1, true⟩ ⟨k, v, n, g⟩ > 0) = true := decide_eq_true (gt_one.2 ((newer_iff _ _).2 (.inl (by show n < n + 1; omega))))
      rw [hc] at cC
      cases hm : Item.may ⟨k, v, n, g⟩ with
      | true =>
        rw [hm] at cP
        rw [hPQ hm] at cQ
        refine Fn_of_W eok Try.func6 rfl rfl (Nat.le_of_ble_eq_true rfl) ?_
        have nS := True.intro
        repeat' (first | ((with_reducible refine sg ?_); first | with_reducible rfl | ((with_reducible refine fitG ?_); first | kernel_rfl | rfl | (simp [fitT, fitF, nS]; done)) | with_reducible refine andT ?_ ?_ | with_reducible exact Nat.beq_refl _ | with_reducible exact fitsI_u8 _ | ((with_reducible refine decide_eq_true ?_); first | omega | (simp only [SZl, nS]; omega)) | decide | (simp [SZl, slc, allOneD, D.one, allOne, AV.one, nS]; done) | (simp [SZl, nS]; omega)) | ((with_reducible refine gWl ?_); first | (refine Wl_isMv rfl ?_; refine Xmv eok rfl rfl rfl rfl ?_) | refine Xq eok rfl rfl rfl rfl ?_ ?_ | refine Xn [0, 1, 2, 3, 6, 33] rfl ?_ | refine XF (cG) rfl rfl rfl rfl ?_ | refine XF (cN) rfl rfl rfl rfl ?_ | refine XF (cP) rfl rfl rfl rfl ?_ | refine XF (cQ) rfl rfl rfl rfl ?_ | refine XF (cC) rfl rfl rfl rfl ?_ | refine XF (wakes_fn) rfl rfl rfl rfl ?_ | refine Xa eok rfl rfl rfl rfl rfl ?_ ?_ | refine Xw eok rfl rfl rfl rfl ?_ ?_ | refine Xs rfl rfl rfl ?_ | (refine Xsplit rfl rfl (fun hc => ?_) (fun hc => ?_) <;> (fail_if_success (with_reducible first | exact tF hc | exact fT hc)) <;> (try simp only [HCl] at hc) <;> (try (exfalso; omega)))) | refine W_seq ?_ | refine W_region ?_ | refine W_skip ?_ | refine W_ret ?_ | refine W_block ?_ | refine W_exit ?_ | refine W_cond_t rfl ?_ | refine W_cond_f rfl ?_ | (refine W_cond rfl (fun hc => ?_) (fun hc => ?_) <;> (try simp only [HCl] at hc) <;> (try (exfalso; omega))))
        all_goals first
          | (refine ⟨_, _, rfl, rfl, ?_⟩; simp [Frz_tup, Frz_ag, Frzs_cons, Frzs_nil, Frz_d, Frz_e0, Frz_sl, sln, isSl, slOk]; done)
          | (exfalso; omega)
      | false =>
        rw [hm] at cP
        refine Fn_of_W eok Try.func6 rfl rfl (Nat.le_of_ble_eq_true rfl) ?_
        have nS := True.intro
        repeat' (first | ((with_reducible refine sg ?_); first | with_reducible rfl | ((with_reducible refine fitG ?_); first | kernel_rfl | rfl | (simp [fitT, fitF, nS]; done)) | with_reducible refine andT ?_ ?_ | with_reducible exact Nat.beq_refl _ | with_reducible exact fitsI_u8 _ | ((with_reducible refine decide_eq_true ?_); first | omega | (simp only [SZl, nS]; omega)) | decide | (simp [SZl, slc, allOneD, D.one, allOne, AV.one, nS]; done) | (simp [SZl, nS]; omega)) | ((with_reducible refine gWl ?_); first | (refine Wl_isMv rfl ?_; refine Xmv eok rfl rfl rfl rfl ?_) | refine Xq eok rfl rfl rfl rfl ?_ ?_ | refine Xn [0, 1, 2, 3, 6, 33] rfl ?_ | refine XF (cG) rfl rfl rfl rfl ?_ | refine XF (cN) rfl rfl rfl rfl ?_ | refine XF (cP) rfl rfl rfl rfl ?_ | refine XF (cQ) rfl rfl rfl rfl ?_ | refine XF (cC) rfl rfl rfl rfl ?_ | refine XF (wakes_fn) rfl rfl rfl rfl ?_ | refine Xa eok rfl rfl rfl rfl rfl ?_ ?_ | refine Xw eok rfl rfl rfl rfl ?_ ?_ | refine Xs rfl rfl rfl ?_ | (refine Xsplit rfl rfl (fun hc => ?_) (fun hc => ?_) <;> (fail_if_success (with_reducible first | exact tF hc | exact fT hc)) <;> (try simp only [HCl] at hc) <;> (try (exfalso; omega)))) | refine W_seq ?_ | refine W_region ?_ | refine W_skip ?_ | refine W_ret ?_ | refine W_block ?_ | refine W_exit ?_ | refine W_cond_t rfl ?_ | refine W_cond_f rfl ?_ | (refine W_cond rfl (fun hc => ?_) (fun hc => ?_) <;> (try simp only [HCl] at hc) <;> (try (exfalso; omega))))
        all_goals first
          | (refine ⟨_, _, rfl, rfl, ?_⟩; simp [Frz_tup, Frz_ag, Frzs_cons, Frzs_nil, Frz_d, Frz_e0, Frz_sl, sln, isSl, slOk]; done)
          | (exfalso; omega)
    · have e : goneT ⟨k, v, n, g⟩ = ⟨k, 0, n, true⟩ := by simp [goneT, hn]
      rw [e] at cN cQ cC hPQ
      cases hm : Item.may ⟨k, v, n, g⟩ with
      | true =>
        rw [hm] at cP
        rw [hPQ hm] at cQ
        refine Fn_of_W eok Try.func6 rfl rfl (Nat.le_of_ble_eq_true rfl) ?_
        have nS := True.intro
        repeat' (first | ((with_reducible refine sg ?_); first | with_reducible rfl | ((with_reducible refine fitG ?_); first | kernel_rfl | rfl | (simp [fitT, fitF, nS]; done)) | with_reducible refine andT ?_ ?_ | with_reducible exact Nat.beq_refl _ | with_reducible exact fitsI_u8 _ | ((with_reducible refine decide_eq_true ?_); first | omega | (simp only [SZl, nS]; omega)) | decide | (simp [SZl, slc, allOneD, D.one, allOne, AV.one, nS]; done) | (simp [SZl, nS]; omega)) | ((with_reducible refine gWl ?_); first | (refine Wl_isMv rfl ?_; refine Xmv eok rfl rfl rfl rfl ?_) | refine Xq eok rfl rfl rfl rfl ?_ ?_ | refine Xn [0, 1, 2, 3, 6, 33] rfl ?_ | refine XF (cG) rfl rfl rfl rfl ?_ | refine XF (cN) rfl rfl rfl rfl ?_ | refine XF (cP) rfl rfl rfl rfl ?_ | refine XF (cQ) rfl rfl rfl rfl ?_ | refine XF (cC) rfl rfl rfl rfl ?_ | refine XF (wakes_fn) rfl rfl rfl rfl ?_ | refine Xa eok rfl rfl rfl rfl rfl ?_ ?_ | refine Xw eok rfl rfl rfl rfl ?_ ?_ | refine Xs rfl rfl rfl ?_ | (refine Xsplit rfl rfl (fun hc => ?_) (fun hc => ?_) <;> (fail_if_success (with_reducible first | exact tF hc | exact fT hc)) <;> (try simp only [HCl] at hc) <;> (try (exfalso; omega)))) | refine W_seq ?_ | refine W_region ?_ | refine W_skip ?_ | refine W_ret ?_ | refine W_block ?_ | refine W_exit ?_ | refine W_cond_t rfl ?_ | refine W_cond_f rfl ?_ | (refine W_cond rfl (fun hc => ?_) (fun hc => ?_) <;> (try simp only [HCl] at hc) <;> (try (exfalso; omega))))
        all_goals first
          | (refine ⟨_, _, rfl, rfl, ?_⟩; simp [Frz_tup, Frz_ag, Frzs_cons, Frzs_nil, Frz_d, Frz_e0, Frz_sl, sln, isSl, slOk]; done)
          | (exfalso; omega)
      | false =>
        rw [hm] at cP
        refine Fn_of_W eok Try.func6 rfl rfl (Nat.le_of_ble_eq_true rfl) ?_
        have nS := True.intro
        repeat' (first | ((with_reducible refine sg ?_); first | with_reducible rfl | ((with_reducible refine fitG ?_); first | kernel_rfl | rfl | (simp [fitT, fitF, nS]; done)) | with_reducible refine andT ?_ ?_ | with_reducible exact Nat.beq_refl _ | with_reducible exact fitsI_u8 _ | ((with_reducible refine decide_eq_true ?_); first | omega | (simp only [SZl, nS]; omega)) | decide | (simp [SZl, slc, allOneD, D.one, allOne, AV.one, nS]; done) | (simp [SZl, nS]; omega)) | ((with_reducible refine gWl ?_); first | (refine Wl_isMv rfl ?_; refine Xmv eok rfl rfl rfl rfl ?_) | refine Xq eok rfl rfl rfl rfl ?_ ?_ | refine Xn [0, 1, 2, 3, 6, 33] rfl ?_ | refine XF (cG) rfl rfl rfl rfl ?_ | refine XF (cN) rfl rfl rfl rfl ?_ | refine XF (cP) rfl rfl rfl rfl ?_ | refine XF (cQ) rfl rfl rfl rfl ?_ | refine XF (cC) rfl rfl rfl rfl ?_ | refine XF (wakes_fn) rfl rfl rfl rfl ?_ | refine Xa eok rfl rfl rfl rfl rfl ?_ ?_ | refine Xw eok rfl rfl rfl rfl ?_ ?_ | refine Xs rfl rfl rfl ?_ | (refine Xsplit rfl rfl (fun hc => ?_) (fun hc => ?_) <;> (fail_if_success (with_reducible first | exact tF hc | exact fT hc)) <;> (try simp only [HCl] at hc) <;> (try (exfalso; omega)))) | refine W_seq ?_ | refine W_region ?_ | refine W_skip ?_ | refine W_ret ?_ | refine W_block ?_ | refine W_exit ?_ | refine W_cond_t rfl ?_ | refine W_cond_f rfl ?_ | (refine W_cond rfl (fun hc => ?_) (fun hc => ?_) <;> (try simp only [HCl] at hc) <;> (try (exfalso; omega))))
        all_goals first
          | (refine ⟨_, _, rfl, rfl, ?_⟩; simp [Frz_tup, Frz_ag, Frzs_cons, Frzs_nil, Frz_d, Frz_e0, Frz_sl, sln, isSl, slOk]; done)
          | (exfalso; omega)
end Go.Proofs.Ytflikcmbbljgeaa
