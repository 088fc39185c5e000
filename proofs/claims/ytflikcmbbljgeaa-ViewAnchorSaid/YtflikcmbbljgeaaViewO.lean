/- Written by a program (pre.py) from the source of the same name. -/
/- Views: the law of anchors. -/
import Derived.Test.YtflikcmbbljgeaaViewL
set_option linter.unusedSimpArgs false
set_option linter.unusedVariables false
set_option linter.unnecessarySimpa false
namespace Go.Proofs.Ytflikcmbbljgeaa
open Go.Gar
set_option maxRecDepth 4000

set_option maxHeartbeats 16000000 in
theorem viewAnchor_fn (v : View) (hv : i64 v.id) (hvb : ∀ y ∈ v.base, i64 y) (hvl : ∀ y ∈ v.list, i64 y) (b1 : v.base.length ≤ 9223372036854775807) (b2 : v.list.length ≤ 9223372036854775807) : Go.Gar.Fn Try.prog 10 [v.d] (.b true) := by
  have c1 := rvRight_any v hv hvl b1 b2
  refine Fn_of_W eok Try.func10 rfl rfl (Nat.le_of_ble_eq_true rfl) ?_
  cases h : rightV v with
  | false =>
    rw [h] at c1
    have c2 := Anchor_no v h b1 b2
    have c3 := First_no v h b1 b2
    obtain ⟨vi, vb, vl, vp, vf⟩ := v
    have nS := True.intro
    repeat' (first | ((with_reducible refine sg ?_); first | with_reducible rfl | ((with_reducible refine fitG ?_); first | kernel_rfl | rfl | (simp [fitT, fitF, nS]; done)) | with_reducible refine andT ?_ ?_ | with_reducible exact Nat.beq_refl _ | with_reducible exact fitsI_u8 _ | ((with_reducible refine decide_eq_true ?_); first | omega | (simp only [SZl, nS]; omega)) | decide | (simp [SZl, slc, allOneD, D.one, allOne, AV.one, nS]; done) | (simp [SZl, nS]; omega)) | ((with_reducible refine gWl ?_); first | (refine Wl_isMv rfl ?_; refine Xmv eok rfl rfl rfl rfl ?_) | refine Xq eok rfl rfl rfl rfl ?_ ?_ | refine Xn [0, 1, 2, 3, 4, 5, 6, 7, 10, 30, 60, 85] rfl ?_ | refine XF (c1) rfl rfl rfl rfl ?_ | refine XF (c2) rfl rfl rfl rfl ?_ | refine XF (c3) rfl rfl rfl rfl ?_ | refine XF (vwakes_fn) rfl rfl rfl rfl ?_ | refine Xa eok rfl rfl rfl rfl rfl ?_ ?_ | refine Xs rfl rfl rfl ?_ | (refine Xsplit rfl rfl (fun hc => ?_) (fun hc => ?_) <;> (fail_if_success (with_reducible first | exact tF hc | exact fT hc)) <;> (try simp only [HCl] at hc) <;> (try (exfalso; omega)))) | ((with_reducible refine gWd ?_); first | (refine Wd_isMv rfl ?_; refine Ymv eok rfl rfl (fun _ => rfl) rfl rfl ?_) | refine Yp eok rfl rfl (fun _ => rfl) rfl rfl ?_ ?_ | refine Yq rfl rfl rfl rfl rfl ?_ ?_ | refine Ys rfl rfl rfl rfl ?_ | refine YF (c1) rfl rfl rfl rfl rfl ?_ | refine YF (c2) rfl rfl rfl rfl rfl ?_ | refine YF (c3) rfl rfl rfl rfl rfl ?_ | refine YF (vwakes_fn) rfl rfl rfl rfl rfl ?_ | refine Ya eok rfl rfl rfl rfl rfl rfl ?_ ?_ | refine Yw eok rfl rfl rfl rfl rfl ?_ ?_ | refine Yn [0, 1, 2, 3, 4, 5, 6, 7, 10, 30, 60, 85] [] mixed eok (by kernel_rfl) True.intro rfl ?_ | (refine Ysplit rfl rfl (fun hc => ?_) (fun hc => ?_) <;> (fail_if_success (with_reducible first | exact tF hc | exact fT hc)) <;> (try simp only [HCl] at hc) <;> (try (exfalso; omega)))) | refine W_seq ?_ | refine W_region ?_ | refine W_any T.get ?_ | refine W_skip ?_ | refine W_ret ?_ | refine W_block ?_ | refine W_exit ?_ | refine W_cond_t rfl ?_ | refine W_cond_f rfl ?_ | (refine W_cond rfl (fun hc => ?_) (fun hc => ?_) <;> (try simp only [HCl] at hc) <;> (try (exfalso; omega))))
    refine ⟨_, _, rfl, rfl, ?_⟩; simp [Frz_tup, Frz_ag, Frzs_cons, Frzs_nil, Frz_d, Frz_e0, Frz_sl, sln, isSl, slOk]
  | true =>
  rw [h] at c1
  obtain ⟨b1, b2⟩ := right_len h
  have c2 := Anchor_fn v b1 b2
  have c3 := vFirst_fn v b1 b2
  obtain ⟨r1, r2, r3, -, -⟩ := rightV_t h
  rw [show anT v = anchT v.id v.base by unfold anT; rw [h]; rfl] at c2
  rw [show fiT v = orA (anchT v.id v.base) v.list by unfold fiT; rw [h]; rfl] at c3
  have a1 := anch_own r1 r2
  obtain ⟨a2, a3⟩ := anch_spec r1 r2
  obtain ⟨id, base, list, pred, f⟩ := v
  replace r1 : isPl id = true := r1
  replace r2 : rightB base = true := r2
  replace r3 : rightL id list = true := r3
  replace a1 : anchT id base = ownT (id + 1) base ∧ isPl (anchT id base) = true ∧ anchT id base ≠ id := a1
  replace a2 : ∀ b ∈ base, b ≠ id → farT id (anchT id base) ≤ farT id b := a2
  replace a3 : anchT id base ∈ base := a3
  replace hv : i64 id := hv
  replace hvb : ∀ y ∈ base, i64 y := hvb
  replace b1 : base.length ≤ 1000 := b1
  replace b2 : list.length ≤ 1000 := b2
  change Go.Gar.Fn _ _ _ (.i .i64 (anchT id base)) at c2
  change Go.Gar.Fn _ _ _ (.i .i64 (orA (anchT id base) list)) at c3
  obtain ⟨-, a4, a5⟩ := a1
  have hai : i64 (anchT id base) := hvb _ a3
  generalize anchT id base = a at *
  have r1' := isPl_t r1
  have hfi : orA a list ≠ id := by
    cases list with
    | nil => exact a5
    | cons p r =>
      simp only [rightL, rT, Bool.and_eq_true, decide_eq_true_eq] at r3
      have := r3.2.1.2
      intro e
      replace e : p = id := e
      rw [e] at this
      unfold farT at this
      omega
  have hfe : list = [] → orA a list = a := fun e => by rw [e]; rfl
  have hf0 : list ≠ [] → list.getD 0 0 = orA a list := fun e => by cases list with | nil => exact absurd rfl e | cons p r => rfl
  generalize orA a list = fi at *
  have nS := True.intro
  repeat' (first | ((with_reducible refine sg ?_); first | with_reducible rfl | ((with_reducible refine fitG ?_); first | kernel_rfl | rfl | (simp [fitT, fitF, nS]; done)) | with_reducible refine andT ?_ ?_ | with_reducible exact Nat.beq_refl _ | with_reducible exact fitsI_u8 _ | ((with_reducible refine decide_eq_true ?_); first | omega | (simp only [SZl, nS]; omega)) | decide | (simp [SZl, slc, allOneD, D.one, allOne, AV.one, nS]; done) | (simp [SZl, nS]; omega)) | ((with_reducible refine gWl ?_); first | (refine Wl_isMv rfl ?_; refine Xmv eok rfl rfl rfl rfl ?_) | refine Xq eok rfl rfl rfl rfl ?_ ?_ | refine Xn [0, 1, 2, 3, 4, 5, 6, 7, 10, 30, 60, 85] rfl ?_ | refine XF (c1) rfl rfl rfl rfl ?_ | refine XF (c2) rfl rfl rfl rfl ?_ | refine XF (c3) rfl rfl rfl rfl ?_ | refine XF (vwakes_fn) rfl rfl rfl rfl ?_ | refine Xa eok rfl rfl rfl rfl rfl ?_ ?_ | refine Xs rfl rfl rfl ?_ | (refine Xsplit rfl rfl (fun hc => ?_) (fun hc => ?_) <;> (fail_if_success (with_reducible first | exact tF hc | exact fT hc)) <;> (try simp only [HCl] at hc) <;> (try (exfalso; omega)))) | ((with_reducible refine gWd ?_); first | (refine Wd_isMv rfl ?_; refine Ymv eok rfl rfl (fun _ => rfl) rfl rfl ?_) | refine Yp eok rfl rfl (fun _ => rfl) rfl rfl ?_ ?_ | refine Yq rfl rfl rfl rfl rfl ?_ ?_ | refine Ys rfl rfl rfl rfl ?_ | refine YF (c1) rfl rfl rfl rfl rfl ?_ | refine YF (c2) rfl rfl rfl rfl rfl ?_ | refine YF (c3) rfl rfl rfl rfl rfl ?_ | refine YF (vwakes_fn) rfl rfl rfl rfl rfl ?_ | refine Ya eok rfl rfl rfl rfl rfl rfl ?_ ?_ | refine Yw eok rfl rfl rfl rfl rfl ?_ ?_ | refine Yn [0, 1, 2, 3, 4, 5, 6, 7, 10, 30, 60, 85] [] mixed eok (by kernel_rfl) True.intro rfl ?_ | (refine Ysplit rfl rfl (fun hc => ?_) (fun hc => ?_) <;> (fail_if_success (with_reducible first | exact tF hc | exact fT hc)) <;> (try simp only [HCl] at hc) <;> (try (exfalso; omega)))) | refine W_seq ?_ | refine W_region ?_ | refine W_any T.get ?_ | refine W_skip ?_ | refine W_ret ?_ | refine W_block ?_ | refine W_exit ?_ | refine W_cond_t rfl ?_ | refine W_cond_f rfl ?_ | (refine W_cond rfl (fun hc => ?_) (fun hc => ?_) <;> (try simp only [HCl] at hc) <;> (try (exfalso; omega))))
  refine W_loopI (fun k => k ≤ base.length) (fun k : Nat => ⟨[(1, .ptr 0 0 20), (2, .d (.b false)), (3, .d (.i .i64 a)), (4, .d (.i .i64 fi)), (5, .d (.b (inI a base k))), (6, .d (.i .i64 k))], [.c (vC id base list pred f)], 101⟩) (fun k => base.length - k) 0 (Nat.zero_le _) ?_ (Nat.le_refl _) ?_
  · exact TSub.cut rfl (by repeat' (first | exact True.intro | refine And.intro (by (first | rfl | ((with_reducible_and_instances refine congrArg (fun z => some (AV.d (D.i _ z))) ?_); omega) | (refine congrArg (fun z => some (AV.d (D.i _ z))) (?_ : (_ : Int) = _); omega) | (refine congrArg some ?_; simp only [inI, List.take_zero, List.any_nil]; done) | (refine congrArg some ?_; simp [inI, List.take_zero, List.any_nil]; done))) ?_)) (by repeat' (first | exact True.intro | refine And.intro (Or.inr rfl) ?_ | refine And.intro (Or.inl ⟨rfl, rfl⟩) ?_ | refine And.intro (Or.inr (by simp only [inI, List.take_zero, List.any_nil])) ?_ | refine And.intro (Or.inr (by simp [inI, List.take_zero, List.any_nil])) ?_)) (by first | rfl | (simp (decide := true) [heapOk, Blk.ok, AV.oks, AV.ok, hk]; done)) rfl
  intro k hk
  unfold vC
  by_cases hkl : k < base.length
  · obtain ⟨p, hp⟩ := get_of hkl
    have gp := getD_of hp
    have hs := inI_succ (z := a) hp
    have hpb := List.mem_of_getElem? hp
    have c4 := rFar_fn id p hv (hvb _ hpb)
    have c5 := rFar_fn id a hv hai
    generalize inI a base k = t at *
    by_cases h0 : farT id p > 0
    · have f1 : decide (farT id p > 0) = true := decide_eq_true h0
      have f2 : decide (farT id p < farT id a) = false := decide_eq_false (by
        have := a2 p hpb (fun e => by rw [e] at h0; unfold farT at h0; omega)
        omega)
      cases t
      all_goals
        have nS := And.intro gp (And.intro f1 f2)
        repeat' (first | ((with_reducible refine sg ?_); first | with_reducible rfl | ((with_reducible refine fitG ?_); first | kernel_rfl | rfl | (simp [fitT, fitF, nS]; done)) | with_reducible refine andT ?_ ?_ | with_reducible exact Nat.beq_refl _ | with_reducible exact fitsI_u8 _ | ((with_reducible refine decide_eq_true ?_); first | omega | (simp only [SZl, nS]; omega)) | decide | (simp [SZl, slc, allOneD, D.one, allOne, AV.one, nS]; done) | (simp [SZl, nS]; omega)) | ((with_reducible refine gWl ?_); first | (refine Wl_isMv rfl ?_; refine Xmv eok rfl rfl rfl rfl ?_) | refine Xq eok rfl rfl rfl rfl ?_ ?_ | refine Xn [0, 1, 2, 3, 4, 5, 6, 7, 10, 30, 60, 85] rfl ?_ | refine XF (c4) rfl rfl rfl rfl ?_ | refine XF (c5) rfl rfl rfl rfl ?_ | refine Xa eok rfl rfl rfl rfl rfl ?_ ?_ | refine Xs rfl rfl rfl ?_ | (refine Xsplit rfl rfl (fun hc => ?_) (fun hc => ?_) <;> (fail_if_success (with_reducible first | exact tF hc | exact fT hc)) <;> (try simp only [HCl] at hc) <;> (try (exfalso; omega)))) | ((with_reducible refine gWd ?_); first | (refine Wd_isMv rfl ?_; refine Ymv eok rfl rfl (fun _ => rfl) rfl rfl ?_) | refine Yp eok rfl rfl (fun _ => rfl) rfl rfl ?_ ?_ | refine Yq rfl rfl rfl rfl rfl ?_ ?_ | refine Ys rfl rfl rfl rfl ?_ | refine YF (c4) rfl rfl rfl rfl rfl ?_ | refine YF (c5) rfl rfl rfl rfl rfl ?_ | refine Ya eok rfl rfl rfl rfl rfl rfl ?_ ?_ | refine Yw eok rfl rfl rfl rfl rfl ?_ ?_ | refine Yn [0, 1, 2, 3, 4, 5, 6, 7, 10, 30, 60, 85] [] mixed eok (by kernel_rfl) True.intro rfl ?_ | (refine Ysplit rfl rfl (fun hc => ?_) (fun hc => ?_) <;> (fail_if_success (with_reducible first | exact tF hc | exact fT hc)) <;> (try simp only [HCl] at hc) <;> (try (exfalso; omega)))) | refine W_seq ?_ | refine W_region ?_ | refine W_any T.get ?_ | refine W_skip ?_ | refine W_ret ?_ | refine W_block ?_ | refine W_exit ?_ | refine W_cond_t rfl ?_ | refine W_cond_f rfl ?_ | (refine W_cond rfl (fun hc => ?_) (fun hc => ?_) <;> (try simp only [HCl] at hc) <;> (try (exfalso; omega))))
        refine ⟨k + 1, hkl, by omega, Nat.le_refl _, ?_⟩
        exact TSub.cut rfl (by repeat' (first | exact True.intro | refine And.intro (by (first | rfl | ((with_reducible_and_instances refine congrArg (fun z => some (AV.d (D.i _ z))) ?_); omega) | (refine congrArg (fun z => some (AV.d (D.i _ z))) (?_ : (_ : Int) = _); omega) | (refine congrArg some ?_; simp only [hs, Bool.true_or, Bool.false_or]; done) | (refine congrArg some ?_; simp [hs, Bool.true_or, Bool.false_or]; done))) ?_)) (by repeat' (first | exact True.intro | refine And.intro (Or.inr rfl) ?_ | refine And.intro (Or.inl ⟨rfl, rfl⟩) ?_ | refine And.intro (Or.inr (by simp only [hs, Bool.true_or, Bool.false_or])) ?_ | refine And.intro (Or.inr (by simp [hs, Bool.true_or, Bool.false_or])) ?_)) (by first | rfl | (simp (decide := true) [heapOk, Blk.ok, AV.oks, AV.ok, hk]; done)) rfl
    · have f1 : decide (farT id p > 0) = false := decide_eq_false h0
      cases t
      all_goals
        have nS := And.intro gp f1
        repeat' (first | ((with_reducible refine sg ?_); first | with_reducible rfl | ((with_reducible refine fitG ?_); first | kernel_rfl | rfl | (simp [fitT, fitF, nS]; done)) | with_reducible refine andT ?_ ?_ | with_reducible exact Nat.beq_refl _ | with_reducible exact fitsI_u8 _ | ((with_reducible refine decide_eq_true ?_); first | omega | (simp only [SZl, nS]; omega)) | decide | (simp [SZl, slc, allOneD, D.one, allOne, AV.one, nS]; done) | (simp [SZl, nS]; omega)) | ((with_reducible refine gWl ?_); first | (refine Wl_isMv rfl ?_; refine Xmv eok rfl rfl rfl rfl ?_) | refine Xq eok rfl rfl rfl rfl ?_ ?_ | refine Xn [0, 1, 2, 3, 4, 5, 6, 7, 10, 30, 60, 85] rfl ?_ | refine XF (c4) rfl rfl rfl rfl ?_ | refine XF (c5) rfl rfl rfl rfl ?_ | refine Xa eok rfl rfl rfl rfl rfl ?_ ?_ | refine Xs rfl rfl rfl ?_ | (refine Xsplit rfl rfl (fun hc => ?_) (fun hc => ?_) <;> (fail_if_success (with_reducible first | exact tF hc | exact fT hc)) <;> (try simp only [HCl] at hc) <;> (try (exfalso; omega)))) | ((with_reducible refine gWd ?_); first | (refine Wd_isMv rfl ?_; refine Ymv eok rfl rfl (fun _ => rfl) rfl rfl ?_) | refine Yp eok rfl rfl (fun _ => rfl) rfl rfl ?_ ?_ | refine Yq rfl rfl rfl rfl rfl ?_ ?_ | refine Ys rfl rfl rfl rfl ?_ | refine YF (c4) rfl rfl rfl rfl rfl ?_ | refine YF (c5) rfl rfl rfl rfl rfl ?_ | refine Ya eok rfl rfl rfl rfl rfl rfl ?_ ?_ | refine Yw eok rfl rfl rfl rfl rfl ?_ ?_ | refine Yn [0, 1, 2, 3, 4, 5, 6, 7, 10, 30, 60, 85] [] mixed eok (by kernel_rfl) True.intro rfl ?_ | (refine Ysplit rfl rfl (fun hc => ?_) (fun hc => ?_) <;> (fail_if_success (with_reducible first | exact tF hc | exact fT hc)) <;> (try simp only [HCl] at hc) <;> (try (exfalso; omega)))) | refine W_seq ?_ | refine W_region ?_ | refine W_any T.get ?_ | refine W_skip ?_ | refine W_ret ?_ | refine W_block ?_ | refine W_exit ?_ | refine W_cond_t rfl ?_ | refine W_cond_f rfl ?_ | (refine W_cond rfl (fun hc => ?_) (fun hc => ?_) <;> (try simp only [HCl] at hc) <;> (try (exfalso; omega))))
        refine ⟨k + 1, hkl, by omega, Nat.le_refl _, ?_⟩
        exact TSub.cut rfl (by repeat' (first | exact True.intro | refine And.intro (by (first | rfl | ((with_reducible_and_instances refine congrArg (fun z => some (AV.d (D.i _ z))) ?_); omega) | (refine congrArg (fun z => some (AV.d (D.i _ z))) (?_ : (_ : Int) = _); omega) | (refine congrArg some ?_; simp only [hs, Bool.true_or, Bool.false_or]; done) | (refine congrArg some ?_; simp [hs, Bool.true_or, Bool.false_or]; done))) ?_)) (by repeat' (first | exact True.intro | refine And.intro (Or.inr rfl) ?_ | refine And.intro (Or.inl ⟨rfl, rfl⟩) ?_ | refine And.intro (Or.inr (by simp only [hs, Bool.true_or, Bool.false_or])) ?_ | refine And.intro (Or.inr (by simp [hs, Bool.true_or, Bool.false_or])) ?_)) (by first | rfl | (simp (decide := true) [heapOk, Blk.ok, AV.oks, AV.ok, hk]; done)) rfl
  · have e : k = base.length := by omega
    subst e
    have hI : inI a base base.length = true := by
      unfold inI
      rw [List.take_length, List.any_eq_true]
      exact ⟨a, a3, beq_self_eq_true a⟩
    rw [hI]
    have g1 := eq_false' a5
    have g2 := eq_false' hfi
    cases list with
    | nil =>
      have h3 := hfe rfl
      subst h3
      have g3 := ne_false (rfl : fi = fi)
      have nS := And.intro g1 (And.intro g2 g3)
      repeat' (first | ((with_reducible refine sg ?_); first | with_reducible rfl | ((with_reducible refine fitG ?_); first | kernel_rfl | rfl | (simp [fitT, fitF, nS]; done)) | with_reducible refine andT ?_ ?_ | with_reducible exact Nat.beq_refl _ | with_reducible exact fitsI_u8 _ | ((with_reducible refine decide_eq_true ?_); first | omega | (simp only [SZl, nS]; omega)) | decide | (simp [SZl, slc, allOneD, D.one, allOne, AV.one, nS]; done) | (simp [SZl, nS]; omega)) | ((with_reducible refine gWl ?_); first | (refine Wl_isMv rfl ?_; refine Xmv eok rfl rfl rfl rfl ?_) | refine Xq eok rfl rfl rfl rfl ?_ ?_ | refine Xn [0, 1, 2, 3, 4, 5, 6, 7, 10, 30, 60, 85] rfl ?_ | refine XF (vwakes_fn) rfl rfl rfl rfl ?_ | refine Xa eok rfl rfl rfl rfl rfl ?_ ?_ | refine Xs rfl rfl rfl ?_ | (refine Xsplit rfl rfl (fun hc => ?_) (fun hc => ?_) <;> (fail_if_success (with_reducible first | exact tF hc | exact fT hc)) <;> (try simp only [HCl] at hc) <;> (try (exfalso; omega)))) | ((with_reducible refine gWd ?_); first | (refine Wd_isMv rfl ?_; refine Ymv eok rfl rfl (fun _ => rfl) rfl rfl ?_) | refine Yp eok rfl rfl (fun _ => rfl) rfl rfl ?_ ?_ | refine Yq rfl rfl rfl rfl rfl ?_ ?_ | refine Ys rfl rfl rfl rfl ?_ | refine YF (vwakes_fn) rfl rfl rfl rfl rfl ?_ | refine Ya eok rfl rfl rfl rfl rfl rfl ?_ ?_ | refine Yw eok rfl rfl rfl rfl rfl ?_ ?_ | refine Yn [0, 1, 2, 3, 4, 5, 6, 7, 10, 30, 60, 85] [] mixed eok (by kernel_rfl) True.intro rfl ?_ | (refine Ysplit rfl rfl (fun hc => ?_) (fun hc => ?_) <;> (fail_if_success (with_reducible first | exact tF hc | exact fT hc)) <;> (try simp only [HCl] at hc) <;> (try (exfalso; omega)))) | refine W_seq ?_ | refine W_region ?_ | refine W_any T.get ?_ | refine W_skip ?_ | refine W_ret ?_ | refine W_block ?_ | refine W_exit ?_ | refine W_cond_t rfl ?_ | refine W_cond_f rfl ?_ | (refine W_cond rfl (fun hc => ?_) (fun hc => ?_) <;> (try simp only [HCl] at hc) <;> (try (exfalso; omega))))
      refine ⟨_, _, rfl, rfl, ?_⟩; simp [Frz_tup, Frz_ag, Frzs_cons, Frzs_nil, Frz_d, Frz_e0, Frz_sl, sln, isSl, slOk]
    | cons p r =>
      have h3 : p = fi := hf0 (by simp)
      subst h3
      have g3 : (((p :: r).length : Int) == 0) = false := eq_false' (by simp only [List.length_cons]; omega)
      have g4 := eq_true' (rfl : p = p)
      have nS := And.intro g1 (And.intro g2 (And.intro g3 g4))
      repeat' (first | ((with_reducible refine sg ?_); first | with_reducible rfl | ((with_reducible refine fitG ?_); first | kernel_rfl | rfl | (simp [fitT, fitF, nS]; done)) | with_reducible refine andT ?_ ?_ | with_reducible exact Nat.beq_refl _ | with_reducible exact fitsI_u8 _ | ((with_reducible refine decide_eq_true ?_); first | omega | (simp only [SZl, nS]; omega)) | decide | (simp [SZl, slc, allOneD, D.one, allOne, AV.one, nS]; done) | (simp [SZl, nS]; omega)) | ((with_reducible refine gWl ?_); first | (refine Wl_isMv rfl ?_; refine Xmv eok rfl rfl rfl rfl ?_) | refine Xq eok rfl rfl rfl rfl ?_ ?_ | refine Xn [0, 1, 2, 3, 4, 5, 6, 7, 10, 30, 60, 85] rfl ?_ | refine XF (vwakes_fn) rfl rfl rfl rfl ?_ | refine Xa eok rfl rfl rfl rfl rfl ?_ ?_ | refine Xs rfl rfl rfl ?_ | (refine Xsplit rfl rfl (fun hc => ?_) (fun hc => ?_) <;> (fail_if_success (with_reducible first | exact tF hc | exact fT hc)) <;> (try simp only [HCl] at hc) <;> (try (exfalso; omega)))) | ((with_reducible refine gWd ?_); first | (refine Wd_isMv rfl ?_; refine Ymv eok rfl rfl (fun _ => rfl) rfl rfl ?_) | refine Yp eok rfl rfl (fun _ => rfl) rfl rfl ?_ ?_ | refine Yq rfl rfl rfl rfl rfl ?_ ?_ | refine Ys rfl rfl rfl rfl ?_ | refine YF (vwakes_fn) rfl rfl rfl rfl rfl ?_ | refine Ya eok rfl rfl rfl rfl rfl rfl ?_ ?_ | refine Yw eok rfl rfl rfl rfl rfl ?_ ?_ | refine Yn [0, 1, 2, 3, 4, 5, 6, 7, 10, 30, 60, 85] [] mixed eok (by kernel_rfl) True.intro rfl ?_ | (refine Ysplit rfl rfl (fun hc => ?_) (fun hc => ?_) <;> (fail_if_success (with_reducible first | exact tF hc | exact fT hc)) <;> (try simp only [HCl] at hc) <;> (try (exfalso; omega)))) | refine W_seq ?_ | refine W_region ?_ | refine W_any T.get ?_ | refine W_skip ?_ | refine W_ret ?_ | refine W_block ?_ | refine W_exit ?_ | refine W_cond_t rfl ?_ | refine W_cond_f rfl ?_ | (refine W_cond rfl (fun hc => ?_) (fun hc => ?_) <;> (try simp only [HCl] at hc) <;> (try (exfalso; omega))))
      refine ⟨_, _, rfl, rfl, ?_⟩; simp [Frz_tup, Frz_ag, Frzs_cons, Frzs_nil, Frz_d, Frz_e0, Frz_sl, sln, isSl, slOk]
end Go.Proofs.Ytflikcmbbljgeaa
