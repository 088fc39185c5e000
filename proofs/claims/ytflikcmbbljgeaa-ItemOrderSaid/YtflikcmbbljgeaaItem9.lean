/- Written by a program (pre.py) from the source of the same name. -/
/- Pairs: the law of order. -/
import Derived.Test.YtflikcmbbljgeaaItem8
set_option linter.unusedSimpArgs false
set_option linter.unusedVariables false
set_option linter.unnecessarySimpa false
namespace Go.Proofs.Ytflikcmbbljgeaa
open Go.Gar
set_option maxRecDepth 4000

set_option maxHeartbeats 8000000 in
theorem itemOrder_fn (a b c : Item) : Go.Gar.Fn Try.prog 4 [a.d, b.d, c.d] (.b true) := by
  have cAB := Cmp_fn a b
  have cBA := Cmp_fn b a
  have nAB := Newer_fn a b
  have nBC := Newer_fn b c
  have nAC := Newer_fn a c
  have hR := cmp_rev a b
  have hT : cmpT a b = 1 → cmpT b c = 1 → cmpT a c = 1 := fun h1 h2 => (newer_iff _ _).2 (newer_trans ((newer_iff _ _).1 h1) ((newer_iff _ _).1 h2))
  obtain ⟨ak, av, an, ag⟩ := a
  obtain ⟨bk, bv, bn, bg⟩ := b
  obtain ⟨ck, cv, cn, cg⟩ := c
  have neg1 : ∀ {z : Int}, z = -1 → decide (z > 0) = false := fun h => by subst h; rfl
  have zer : ∀ {z : Int}, z = 0 → decide (z > 0) = false := fun h => by subst h; rfl
  have pos1 : ∀ {z : Int}, z = 1 → decide (z > 0) = true := fun h => by subst h; rfl
  rcases Int.lt_trichotomy an bn with h | h | h
  · have f1 := eq_false' (show an ≠ bn by omega)
    have f2 := ne_true (show an ≠ bn by omega)
    have f3 : decide (an > bn) = false := decide_eq_false (by omega)
    have e1 : cmpT ⟨ak, av, an, ag⟩ ⟨bk, bv, bn, bg⟩ = -1 := by simp [cmpT, *] <;> omega
    rw [e1] at hR
    rw [e1] at cAB
    rw [hR] at cBA
    rw [neg1 e1] at nAB
    refine Fn_of_W eok Try.func4 rfl rfl (Nat.le_of_ble_eq_true rfl) ?_
    have nS := And.intro f1 (And.intro f2 f3)
    repeat' (first | ((with_reducible refine sg ?_); first | with_reducible rfl | ((with_reducible refine fitG ?_); first | kernel_rfl | rfl | (simp [fitT, fitF, nS]; done)) | with_reducible refine andT ?_ ?_ | with_reducible exact Nat.beq_refl _ | with_reducible exact fitsI_u8 _ | ((with_reducible refine decide_eq_true ?_); first | omega | (simp only [SZl, nS]; omega)) | decide | (simp [SZl, slc, allOneD, D.one, allOne, AV.one, nS]; done) | (simp [SZl, nS]; omega)) | ((with_reducible refine gWl ?_); first | (refine Wl_isMv rfl ?_; refine Xmv eok rfl rfl rfl rfl ?_) | refine Xq eok rfl rfl rfl rfl ?_ ?_ | refine Xn [0, 1, 2, 3, 4, 5, 6, 7, 8, 74, 79] rfl ?_ | refine XF (cAB) rfl rfl rfl rfl ?_ | refine XF (cBA) rfl rfl rfl rfl ?_ | refine XF (nAB) rfl rfl rfl rfl ?_ | refine XF (nBC) rfl rfl rfl rfl ?_ | refine XF (nAC) rfl rfl rfl rfl ?_ | refine XF (wakes_fn) rfl rfl rfl rfl ?_ | refine Xa eok rfl rfl rfl rfl rfl ?_ ?_ | refine Xs rfl rfl rfl ?_ | (refine Xsplit rfl rfl (fun hc => ?_) (fun hc => ?_) <;> (fail_if_success (with_reducible first | exact tF hc | exact fT hc)) <;> (try simp only [HCl] at hc) <;> (try (exfalso; omega)))) | refine W_seq ?_ | refine W_region ?_ | refine W_skip ?_ | refine W_ret ?_ | refine W_block ?_ | refine W_exit ?_ | refine W_cond_t rfl ?_ | refine W_cond_f rfl ?_ | (refine W_cond rfl (fun hc => ?_) (fun hc => ?_) <;> (try simp only [HCl] at hc) <;> (try (exfalso; omega))))
    all_goals first
      | (refine ⟨_, _, rfl, rfl, ?_⟩; simp [Frz_tup, Frz_ag, Frzs_cons, Frzs_nil, Frz_d, Frz_e0, Frz_sl, sln, isSl, slOk]; done)
      | (exfalso; omega)
  · subst h
    rcases Int.lt_trichotomy av bv with h | h | h
    · have f1 := eq_false' (show av ≠ bv by omega)
      have f3 : decide (av > bv) = false := decide_eq_false (by omega)
      have e1 : cmpT ⟨ak, av, an, ag⟩ ⟨bk, bv, an, bg⟩ = -1 := by simp [cmpT, *] <;> omega
      rw [e1] at hR
      rw [e1] at cAB
      rw [hR] at cBA
      rw [neg1 e1] at nAB
      refine Fn_of_W eok Try.func4 rfl rfl (Nat.le_of_ble_eq_true rfl) ?_
      have nS := And.intro f1 f3
      repeat' (first | ((with_reducible refine sg ?_); first | with_reducible rfl | ((with_reducible refine fitG ?_); first | kernel_rfl | rfl | (simp [fitT, fitF, nS]; done)) | with_reducible refine andT ?_ ?_ | with_reducible exact Nat.beq_refl _ | with_reducible exact fitsI_u8 _ | ((with_reducible refine decide_eq_true ?_); first | omega | (simp only [SZl, nS]; omega)) | decide | (simp [SZl, slc, allOneD, D.one, allOne, AV.one, nS]; done) | (simp [SZl, nS]; omega)) | ((with_reducible refine gWl ?_); first | (refine Wl_isMv rfl ?_; refine Xmv eok rfl rfl rfl rfl ?_) | refine Xq eok rfl rfl rfl rfl ?_ ?_ | refine Xn [0, 1, 2, 3, 4, 5, 6, 7, 8, 74, 79] rfl ?_ | refine XF (cAB) rfl rfl rfl rfl ?_ | refine XF (cBA) rfl rfl rfl rfl ?_ | refine XF (nAB) rfl rfl rfl rfl ?_ | refine XF (nBC) rfl rfl rfl rfl ?_ | refine XF (nAC) rfl rfl rfl rfl ?_ | refine XF (wakes_fn) rfl rfl rfl rfl ?_ | refine Xa eok rfl rfl rfl rfl rfl ?_ ?_ | refine Xs rfl rfl rfl ?_ | (refine Xsplit rfl rfl (fun hc => ?_) (fun hc => ?_) <;> (fail_if_success (with_reducible first | exact tF hc | exact fT hc)) <;> (try simp only [HCl] at hc) <;> (try (exfalso; omega)))) | refine W_seq ?_ | refine W_region ?_ | refine W_skip ?_ | refine W_ret ?_ | refine W_block ?_ | refine W_exit ?_ | refine W_cond_t rfl ?_ | refine W_cond_f rfl ?_ | (refine W_cond rfl (fun hc => ?_) (fun hc => ?_) <;> (try simp only [HCl] at hc) <;> (try (exfalso; omega))))
      all_goals first
        | (refine ⟨_, _, rfl, rfl, ?_⟩; simp [Frz_tup, Frz_ag, Frzs_cons, Frzs_nil, Frz_d, Frz_e0, Frz_sl, sln, isSl, slOk]; done)
        | (exfalso; omega)
    · subst h
      cases ag <;> cases bg
      · have e1 : cmpT ⟨ak, av, an, false⟩ ⟨bk, av, an, false⟩ = 0 := by simp [cmpT, *] <;> omega
        rw [e1] at hR
        rw [e1] at cAB
        rw [hR] at cBA
        rw [zer e1] at nAB
        refine Fn_of_W eok Try.func4 rfl rfl (Nat.le_of_ble_eq_true rfl) ?_
        have nS := True.intro
        repeat' (first | ((with_reducible refine sg ?_); first | with_reducible rfl | ((with_reducible refine fitG ?_); first | kernel_rfl | rfl | (simp [fitT, fitF, nS]; done)) | with_reducible refine andT ?_ ?_ | with_reducible exact Nat.beq_refl _ | with_reducible exact fitsI_u8 _ | ((with_reducible refine decide_eq_true ?_); first | omega | (simp only [SZl, nS]; omega)) | decide | (simp [SZl, slc, allOneD, D.one, allOne, AV.one, nS]; done) | (simp [SZl, nS]; omega)) | ((with_reducible refine gWl ?_); first | (refine Wl_isMv rfl ?_; refine Xmv eok rfl rfl rfl rfl ?_) | refine Xq eok rfl rfl rfl rfl ?_ ?_ | refine Xn [0, 1, 2, 3, 4, 5, 6, 7, 8, 74, 79] rfl ?_ | refine XF (cAB) rfl rfl rfl rfl ?_ | refine XF (cBA) rfl rfl rfl rfl ?_ | refine XF (nAB) rfl rfl rfl rfl ?_ | refine XF (nBC) rfl rfl rfl rfl ?_ | refine XF (nAC) rfl rfl rfl rfl ?_ | refine XF (wakes_fn) rfl rfl rfl rfl ?_ | refine Xa eok rfl rfl rfl rfl rfl ?_ ?_ | refine Xs rfl rfl rfl ?_ | (refine Xsplit rfl rfl (fun hc => ?_) (fun hc => ?_) <;> (fail_if_success (with_reducible first | exact tF hc | exact fT hc)) <;> (try simp only [HCl] at hc) <;> (try (exfalso; omega)))) | refine W_seq ?_ | refine W_region ?_ | refine W_skip ?_ | refine W_ret ?_ | refine W_block ?_ | refine W_exit ?_ | refine W_cond_t rfl ?_ | refine W_cond_f rfl ?_ | (refine W_cond rfl (fun hc => ?_) (fun hc => ?_) <;> (try simp only [HCl] at hc) <;> (try (exfalso; omega))))
        all_goals first
          | (refine ⟨_, _, rfl, rfl, ?_⟩; simp [Frz_tup, Frz_ag, Frzs_cons, Frzs_nil, Frz_d, Frz_e0, Frz_sl, sln, isSl, slOk]; done)
          | (exfalso; omega)
      · have e1 : cmpT ⟨ak, av, an, false⟩ ⟨bk, av, an, true⟩ = -1 := by simp [cmpT, *] <;> omega
        rw [e1] at hR
        rw [e1] at cAB
        rw [hR] at cBA
        rw [neg1 e1] at nAB
        refine Fn_of_W eok Try.func4 rfl rfl (Nat.le_of_ble_eq_true rfl) ?_
        have nS := True.intro
        repeat' (first | ((with_reducible refine sg ?_); first | with_reducible rfl | ((with_reducible refine fitG ?_); first | kernel_rfl | rfl | (simp [fitT, fitF, nS]; done)) | with_reducible refine andT ?_ ?_ | with_reducible exact Nat.beq_refl _ | with_reducible exact fitsI_u8 _ | ((with_reducible refine decide_eq_true ?_); first | omega | (simp only [SZl, nS]; omega)) | decide | (simp [SZl, slc, allOneD, D.one, allOne, AV.one, nS]; done) | (simp [SZl, nS]; omega)) | ((with_reducible refine gWl ?_); first | (refine Wl_isMv rfl ?_; refine Xmv eok rfl rfl rfl rfl ?_) | refine Xq eok rfl rfl rfl rfl ?_ ?_ | refine Xn [0, 1, 2, 3, 4, 5, 6, 7, 8, 74, 79] rfl ?_ | refine XF (cAB) rfl rfl rfl rfl ?_ | refine XF (cBA) rfl rfl rfl rfl ?_ | refine XF (nAB) rfl rfl rfl rfl ?_ | refine XF (nBC) rfl rfl rfl rfl ?_ | refine XF (nAC) rfl rfl rfl rfl ?_ | refine XF (wakes_fn) rfl rfl rfl rfl ?_ | refine Xa eok rfl rfl rfl rfl rfl ?_ ?_ | refine Xs rfl rfl rfl ?_ | (refine Xsplit rfl rfl (fun hc => ?_) (fun hc => ?_) <;> (fail_if_success (with_reducible first | exact tF hc | exact fT hc)) <;> (try simp only [HCl] at hc) <;> (try (exfalso; omega)))) | refine W_seq ?_ | refine W_region ?_ | refine W_skip ?_ | refine W_ret ?_ | refine W_block ?_ | refine W_exit ?_ | refine W_cond_t rfl ?_ | refine W_cond_f rfl ?_ | (refine W_cond rfl (fun hc => ?_) (fun hc => ?_) <;> (try simp only [HCl] at hc) <;> (try (exfalso; omega))))
        all_goals first
          | (refine ⟨_, _, rfl, rfl, ?_⟩; simp [Frz_tup, Frz_ag, Frzs_cons, Frzs_nil, Frz_d, Frz_e0, Frz_sl, sln, isSl, slOk]; done)
          | (exfalso; omega)
      · have e1 : cmpT ⟨ak, av, an, true⟩ ⟨bk, av, an, false⟩ = 1 := by simp [cmpT, *] <;> omega
        rw [e1] at hR
        rw [e1] at cAB
        rw [hR] at cBA
        rw [pos1 e1] at nAB
        cases h2 : decide (cmpT ⟨bk, av, an, false⟩ ⟨ck, cv, cn, cg⟩ > 0) with
        | true =>
          rw [h2] at nBC
          rw [pos1 (hT e1 (gt_one.1 (of_decide_eq_true h2)))] at nAC
          refine Fn_of_W eok Try.func4 rfl rfl (Nat.le_of_ble_eq_true rfl) ?_
          have nS := True.intro
          repeat' (first | ((with_reducible refine sg ?_); first | with_reducible rfl | ((with_reducible refine fitG ?_); first | kernel_rfl | rfl | (simp [fitT, fitF, nS]; done)) | with_reducible refine andT ?_ ?_ | with_reducible exact Nat.beq_refl _ | with_reducible exact fitsI_u8 _ | ((with_reducible refine decide_eq_true ?_); first | omega | (simp only [SZl, nS]; omega)) | decide | (simp [SZl, slc, allOneD, D.one, allOne, AV.one, nS]; done) | (simp [SZl, nS]; omega)) | ((with_reducible refine gWl ?_); first | (refine Wl_isMv rfl ?_; refine Xmv eok rfl rfl rfl rfl ?_) | refine Xq eok rfl rfl rfl rfl ?_ ?_ | refine Xn [0, 1, 2, 3, 4, 5, 6, 7, 8, 74, 79] rfl ?_ | refine XF (cAB) rfl rfl rfl rfl ?_ | refine XF (cBA) rfl rfl rfl rfl ?_ | refine XF (nAB) rfl rfl rfl rfl ?_ | refine XF (nBC) rfl rfl rfl rfl ?_ | refine XF (nAC) rfl rfl rfl rfl ?_ | refine XF (wakes_fn) rfl rfl rfl rfl ?_ | refine Xa eok rfl rfl rfl rfl rfl ?_ ?_ | refine Xs rfl rfl rfl ?_ | (refine Xsplit rfl rfl (fun hc => ?_) (fun hc => ?_) <;> (fail_if_success (with_reducible first | exact tF hc | exact fT hc)) <;> (try simp only [HCl] at hc) <;> (try (exfalso; omega)))) | refine W_seq ?_ | refine W_region ?_ | refine W_skip ?_ | refine W_ret ?_ | refine W_block ?_ | refine W_exit ?_ | refine W_cond_t rfl ?_ | refine W_cond_f rfl ?_ | (refine W_cond rfl (fun hc => ?_) (fun hc => ?_) <;> (try simp only [HCl] at hc) <;> (try (exfalso; omega))))
          all_goals first
            | (refine ⟨_, _, rfl, rfl, ?_⟩; simp [Frz_tup, Frz_ag, Frzs_cons, Frzs_nil, Frz_d, Frz_e0, Frz_sl, sln, isSl, slOk]; done)
            | (exfalso; omega)
        | false =>
          rw [h2] at nBC
          refine Fn_of_W eok Try.func4 rfl rfl (Nat.le_of_ble_eq_true rfl) ?_
          have nS := True.intro
          repeat' (first | ((with_reducible refine sg ?_); first | with_reducible rfl | ((with_reducible refine fitG ?_); first | kernel_rfl | rfl | (simp [fitT, fitF, nS]; done)) | with_reducible refine andT ?_ ?_ | with_reducible exact Nat.beq_refl _ | with_reducible exact fitsI_u8 _ | ((with_reducible refine decide_eq_true ?_); first | omega | (simp only [SZl, nS]; omega)) | decide | (simp [SZl, slc, allOneD, D.one, allOne, AV.one, nS]; done) | (simp [SZl, nS]; omega)) | ((with_reducible refine gWl ?_); first | (refine Wl_isMv rfl ?_; refine Xmv eok rfl rfl rfl rfl ?_) | refine Xq eok rfl rfl rfl rfl ?_ ?_ | refine Xn [0, 1, 2, 3, 4, 5, 6, 7, 8, 74, 79] rfl ?_ | refine XF (cAB) rfl rfl rfl rfl ?_ | refine XF (cBA) rfl rfl rfl rfl ?_ | refine XF (nAB) rfl rfl rfl rfl ?_ | refine XF (nBC) rfl rfl rfl rfl ?_ | refine XF (nAC) rfl rfl rfl rfl ?_ | refine XF (wakes_fn) rfl rfl rfl rfl ?_ | refine Xa eok rfl rfl rfl rfl rfl ?_ ?_ | refine Xs rfl rfl rfl ?_ | (refine Xsplit rfl rfl (fun hc => ?_) (fun hc => ?_) <;> (fail_if_success (with_reducible first | exact tF hc | exact fT hc)) <;> (try simp only [HCl] at hc) <;> (try (exfalso; omega)))) | refine W_seq ?_ | refine W_region ?_ | refine W_skip ?_ | refine W_ret ?_ | refine W_block ?_ | refine W_exit ?_ | refine W_cond_t rfl ?_ | refine W_cond_f rfl ?_ | (refine W_cond rfl (fun hc => ?_) (fun hc => ?_) <;> (try simp only [HCl] at hc) <;> (try (exfalso; omega))))
          all_goals first
            | (refine ⟨_, _, rfl, rfl, ?_⟩; simp [Frz_tup, Frz_ag, Frzs_cons, Frzs_nil, Frz_d, Frz_e0, Frz_sl, sln, isSl, slOk]; done)
            | (exfalso; omega)
      · have e1 : cmpT ⟨ak, av, an, true⟩ ⟨bk, av, an, true⟩ = 0 := by simp [cmpT, *] <;> omega
        rw [e1] at hR
        rw [e1] at cAB
        rw [hR] at cBA
        rw [zer e1] at nAB
        refine Fn_of_W eok Try.func4 rfl rfl (Nat.le_of_ble_eq_true rfl) ?_
        have nS := True.intro
        repeat' (first | ((with_reducible refine sg ?_); first | with_reducible rfl | ((with_reducible refine fitG ?_); first | kernel_rfl | rfl | (simp [fitT, fitF, nS]; done)) | with_reducible refine andT ?_ ?_ | with_reducible exact Nat.beq_refl _ | with_reducible exact fitsI_u8 _ | ((with_reducible refine decide_eq_true ?_); first | omega | (simp only [SZl, nS]; omega)) | decide | (simp [SZl, slc, allOneD, D.one, allOne, AV.one, nS]; done) | (simp [SZl, nS]; omega)) | ((with_reducible refine gWl ?_); first | (refine Wl_isMv rfl ?_; refine Xmv eok rfl rfl rfl rfl ?_) | refine Xq eok rfl rfl rfl rfl ?_ ?_ | refine Xn [0, 1, 2, 3, 4, 5, 6, 7, 8, 74, 79] rfl ?_ | refine XF (cAB) rfl rfl rfl rfl ?_ | refine XF (cBA) rfl rfl rfl rfl ?_ | refine XF (nAB) rfl rfl rfl rfl ?_ | refine XF (nBC) rfl rfl rfl rfl ?_ | refine XF (nAC) rfl rfl rfl rfl ?_ | refine XF (wakes_fn) rfl rfl rfl rfl ?_ | refine Xa eok rfl rfl rfl rfl rfl ?_ ?_ | refine Xs rfl rfl rfl ?_ | (refine Xsplit rfl rfl (fun hc => ?_) (fun hc => ?_) <;> (fail_if_success (with_reducible first | exact tF hc | exact fT hc)) <;> (try simp only [HCl] at hc) <;> (try (exfalso; omega)))) | refine W_seq ?_ | refine W_region ?_ | refine W_skip ?_ | refine W_ret ?_ | refine W_block ?_ | refine W_exit ?_ | refine W_cond_t rfl ?_ | refine W_cond_f rfl ?_ | (refine W_cond rfl (fun hc => ?_) (fun hc => ?_) <;> (try simp only [HCl] at hc) <;> (try (exfalso; omega))))
        all_goals first
          | (refine ⟨_, _, rfl, rfl, ?_⟩; simp [Frz_tup, Frz_ag, Frzs_cons, Frzs_nil, Frz_d, Frz_e0, Frz_sl, sln, isSl, slOk]; done)
          | (exfalso; omega)
    · have f1 := eq_false' (show av ≠ bv by omega)
      have f3 : decide (av > bv) = true := decide_eq_true (by omega)
      have e1 : cmpT ⟨ak, av, an, ag⟩ ⟨bk, bv, an, bg⟩ = 1 := by simp [cmpT, *] <;> omega
      rw [e1] at hR
      rw [e1] at cAB
      rw [hR] at cBA
      rw [pos1 e1] at nAB
      cases h2 : decide (cmpT ⟨bk, bv, an, bg⟩ ⟨ck, cv, cn, cg⟩ > 0) with
      | true =>
        rw [h2] at nBC
        rw [pos1 (hT e1 (gt_one.1 (of_decide_eq_true h2)))] at nAC
        refine Fn_of_W eok Try.func4 rfl rfl (Nat.le_of_ble_eq_true rfl) ?_
        have nS := And.intro f1 f3
        repeat' (first | ((with_reducible refine sg ?_); first | with_reducible rfl | ((with_reducible refine fitG ?_); first | kernel_rfl | rfl | (simp [fitT, fitF, nS]; done)) | with_reducible refine andT ?_ ?_ | with_reducible exact Nat.beq_refl _ | with_reducible exact fitsI_u8 _ | ((with_reducible refine decide_eq_true ?_); first | omega | (simp only [SZl, nS]; omega)) | decide | (simp [SZl, slc, allOneD, D.one, allOne, AV.one, nS]; done) | (simp [SZl, nS]; omega)) | ((with_reducible refine gWl ?_); first | (refine Wl_isMv rfl ?_; refine Xmv eok rfl rfl rfl rfl ?_) | refine Xq eok rfl rfl rfl rfl ?_ ?_ | refine Xn [0, 1, 2, 3, 4, 5, 6, 7, 8, 74, 79] rfl ?_ | refine XF (cAB) rfl rfl rfl rfl ?_ | refine XF (cBA) rfl rfl rfl rfl ?_ | refine XF (nAB) rfl rfl rfl rfl ?_ | refine XF (nBC) rfl rfl rfl rfl ?_ | refine XF (nAC) rfl rfl rfl rfl ?_ | refine XF (wakes_fn) rfl rfl rfl rfl ?_ | refine Xa eok rfl rfl rfl rfl rfl ?_ ?_ | refine Xs rfl rfl rfl ?_ | (refine Xsplit rfl rfl (fun hc => ?_) (fun hc => ?_) <;> (fail_if_success (with_reducible first | exact tF hc | exact fT hc)) <;> (try simp only [HCl] at hc) <;> (try (exfalso; omega)))) | refine W_seq ?_ | refine W_region ?_ | refine W_skip ?_ | refine W_ret ?_ | refine W_block ?_ | refine W_exit ?_ | refine W_cond_t rfl ?_ | refine W_cond_f rfl ?_ | (refine W_cond rfl (fun hc => ?_) (fun hc => ?_) <;> (try simp only [HCl] at hc) <;> (try (exfalso; omega))))
        all_goals first
          | (refine ⟨_, _, rfl, rfl, ?_⟩; simp [Frz_tup, Frz_ag, Frzs_cons, Frzs_nil, Frz_d, Frz_e0, Frz_sl, sln, isSl, slOk]; done)
          | (exfalso; omega)
      | false =>
        rw [h2] at nBC
        refine Fn_of_W eok Try.func4 rfl rfl (Nat.le_of_ble_eq_true rfl) ?_
        have nS := And.intro f1 f3
        repeat' (first | ((with_reducible refine sg ?_); first | with_reducible rfl | ((with_reducible refine fitG ?_); first | kernel_rfl | rfl | (simp [fitT, fitF, nS]; done)) | with_reducible refine andT ?_ ?_ | with_reducible exact Nat.beq_refl _ | with_reducible exact fitsI_u8 _ | ((with_reducible refine decide_eq_true ?_); first | omega | (simp only [SZl, nS]; omega)) | decide | (simp [SZl, slc, allOneD, D.one, allOne, AV.one, nS]; done) | (simp [SZl, nS]; omega)) | ((with_reducible refine gWl ?_); first | (refine Wl_isMv rfl ?_; refine Xmv eok rfl rfl rfl rfl ?_) | refine Xq eok rfl rfl rfl rfl ?_ ?_ | refine Xn [0, 1, 2, 3, 4, 5, 6, 7, 8, 74, 79] rfl ?_ | refine XF (cAB) rfl rfl rfl rfl ?_ | refine XF (cBA) rfl rfl rfl rfl ?_ | refine XF (nAB) rfl rfl rfl rfl ?_ | refine XF (nBC) rfl rfl rfl rfl ?_ | refine XF (nAC) rfl rfl rfl rfl ?_ | refine XF (wakes_fn) rfl rfl rfl rfl ?_ | refine Xa eok rfl rfl rfl rfl rfl ?_ ?_ | refine Xs rfl rfl rfl ?_ | (refine Xsplit rfl rfl (fun hc => ?_) (fun hc => ?_) <;> (fail_if_success (with_reducible first | exact tF hc | exact fT hc)) <;> (try simp only [HCl] at hc) <;> (try (exfalso; omega)))) | refine W_seq ?_ | refine W_region ?_ | refine W_skip ?_ | refine W_ret ?_ | refine W_block ?_ | refine W_exit ?_ | refine W_cond_t rfl ?_ | refine W_cond_f rfl ?_ | (refine W_cond rfl (fun hc => ?_) (fun hc => ?_) <;> (try simp only [HCl] at hc) <;> (try (exfalso; omega))))
        all_goals first
          | (refine ⟨_, _, rfl, rfl, ?_⟩; simp [Frz_tup, Frz_ag, Frzs_cons, Frzs_nil, Frz_d, Frz_e0, Frz_sl, sln, isSl, slOk]; done)
          | (exfalso; omega)
  · have f1 := eq_false' (show an ≠ bn by omega)
    have f2 := ne_true (show an ≠ bn by omega)
    have f3 : decide (an > bn) = true := decide_eq_true (by omega)
    have e1 : cmpT ⟨ak, av, an, ag⟩ ⟨bk, bv, bn, bg⟩ = 1 := by simp [cmpT, *] <;> omega
    rw [e1] at hR
    rw [e1] at cAB
    rw [hR] at cBA
    rw [pos1 e1] at nAB
    cases h2 : decide (cmpT ⟨bk, bv, bn, bg⟩ ⟨ck, cv, cn, cg⟩ > 0) with
    | true =>
      rw [h2] at nBC
      rw [pos1 (hT e1 (gt_one.1 (of_decide_eq_true h2)))] at nAC
      refine Fn_of_W eok Try.func4 rfl rfl (Nat.le_of_ble_eq_true rfl) ?_
      have nS := And.intro f1 (And.intro f2 f3)
      repeat' (first | ((with_reducible refine sg ?_); first | with_reducible rfl | ((with_reducible refine fitG ?_); first | kernel_rfl | rfl | (simp [fitT, fitF, nS]; done)) | with_reducible refine andT ?_ ?_ | with_reducible exact Nat.beq_refl _ | with_reducible exact fitsI_u8 _ | ((with_reducible refine decide_eq_true ?_); first | omega | (simp only [SZl, nS]; omega)) | decide | (simp [SZl, slc, allOneD, D.one, allOne, AV.one, nS]; done) | (simp [SZl, nS]; omega)) | ((with_reducible refine gWl ?_); first | (refine Wl_isMv rfl ?_; refine Xmv eok rfl rfl rfl rfl ?_) | refine Xq eok rfl rfl rfl rfl ?_ ?_ | refine Xn [0, 1, 2, 3, 4, 5, 6, 7, 8, 74, 79] rfl ?_ | refine XF (cAB) rfl rfl rfl rfl ?_ | refine XF (cBA) rfl rfl rfl rfl ?_ | refine XF (nAB) rfl rfl rfl rfl ?_ | refine XF (nBC) rfl rfl rfl rfl ?_ | refine XF (nAC) rfl rfl rfl rfl ?_ | refine XF (wakes_fn) rfl rfl rfl rfl ?_ | refine Xa eok rfl rfl rfl rfl rfl ?_ ?_ | refine Xs rfl rfl rfl ?_ | (refine Xsplit rfl rfl (fun hc => ?_) (fun hc => ?_) <;> (fail_if_success (with_reducible first | exact tF hc | exact fT hc)) <;> (try simp only [HCl] at hc) <;> (try (exfalso; omega)))) | refine W_seq ?_ | refine W_region ?_ | refine W_skip ?_ | refine W_ret ?_ | refine W_block ?_ | refine W_exit ?_ | refine W_cond_t rfl ?_ | refine W_cond_f rfl ?_ | (refine W_cond rfl (fun hc => ?_) (fun hc => ?_) <;> (try simp only [HCl] at hc) <;> (try (exfalso; omega))))
      all_goals first
        | (refine ⟨_, _, rfl, rfl, ?_⟩; simp [Frz_tup, Frz_ag, Frzs_cons, Frzs_nil, Frz_d, Frz_e0, Frz_sl, sln, isSl, slOk]; done)
        | (exfalso; omega)
    | false =>
      rw [h2] at nBC
      refine Fn_of_W eok Try.func4 rfl rfl (Nat.le_of_ble_eq_true rfl) ?_
      have nS := And.intro f1 (And.intro f2 f3)
      repeat' (first | ((with_reducible refine sg ?_); first | with_reducible rfl | ((with_reducible refine fitG ?_); first | kernel_rfl | rfl | (simp [fitT, fitF, nS]; done)) | with_reducible refine andT ?_ ?_ | with_reducible exact Nat.beq_refl _ | with_reducible exact fitsI_u8 _ | ((with_reducible refine decide_eq_true ?_); first | omega | (simp only [SZl, nS]; omega)) | decide | (simp [SZl, slc, allOneD, D.one, allOne, AV.one, nS]; done) | (simp [SZl, nS]; omega)) | ((with_reducible refine gWl ?_); first | (refine Wl_isMv rfl ?_; refine Xmv eok rfl rfl rfl rfl ?_) | refine Xq eok rfl rfl rfl rfl ?_ ?_ | refine Xn [0, 1, 2, 3, 4, 5, 6, 7, 8, 74, 79] rfl ?_ | refine XF (cAB) rfl rfl rfl rfl ?_ | refine XF (cBA) rfl rfl rfl rfl ?_ | refine XF (nAB) rfl rfl rfl rfl ?_ | refine XF (nBC) rfl rfl rfl rfl ?_ | refine XF (nAC) rfl rfl rfl rfl ?_ | refine XF (wakes_fn) rfl rfl rfl rfl ?_ | refine Xa eok rfl rfl rfl rfl rfl ?_ ?_ | refine Xs rfl rfl rfl ?_ | (refine Xsplit rfl rfl (fun hc => ?_) (fun hc => ?_) <;> (fail_if_success (with_reducible first | exact tF hc | exact fT hc)) <;> (try simp only [HCl] at hc) <;> (try (exfalso; omega)))) | refine W_seq ?_ | refine W_region ?_ | refine W_skip ?_ | refine W_ret ?_ | refine W_block ?_ | refine W_exit ?_ | refine W_cond_t rfl ?_ | refine W_cond_f rfl ?_ | (refine W_cond rfl (fun hc => ?_) (fun hc => ?_) <;> (try simp only [HCl] at hc) <;> (try (exfalso; omega))))
      all_goals first
        | (refine ⟨_, _, rfl, rfl, ?_⟩; simp [Frz_tup, Frz_ag, Frzs_cons, Frzs_nil, Frz_d, Frz_e0, Frz_sl, sln, isSl, slOk]; done)
        | (exfalso; omega)
end Go.Proofs.Ytflikcmbbljgeaa
