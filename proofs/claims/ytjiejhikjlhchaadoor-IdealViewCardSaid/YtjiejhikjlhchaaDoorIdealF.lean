/- Written by a program (pre.py) from the source of the same name. -/
/- How a circle ought to be: lists; who is ahead; owners; holders. -/
import Derived.Test.YtjiejhikjlhchaaDoorIdealE
set_option linter.unusedSimpArgs false
set_option linter.unusedVariables false
set_option linter.unnecessarySimpa false
namespace Go.Proofs.YtjiejhikjlhchaaDoor
open Go.Gar
set_option maxRecDepth 4000

theorem oth_len (l : List Int) (x : Int) : (othR l x).1.length ≤ 11 := by
  unfold othR
  split
  · rename_i h
    simp only [Bool.and_eq_true, decide_eq_true_eq] at h
    obtain ⟨-, r2, r3, -⟩ := rightM_t h.1
    have := rot_len r3 h.2
    show (rotT x l).length ≤ 11
    omega
  · exact Nat.zero_le _
def listT (l : List Int) (x : Int) : List Int := (othR l x).1.take 3
theorem min_pos {n : Nat} (h : 3 < n) : (if (3 : Int) < (n : Int) then (3 : Int) else (n : Int)) = 3 := if_pos (by omega)
theorem min_neg {n : Nat} (h : ¬ 3 < n) : (if (3 : Int) < (n : Int) then (3 : Int) else (n : Int)) = (n : Int) := if_neg (by omega)
theorem take_all {o : List Int} (h : ¬ 3 < o.length) : o.take 3 = o := List.take_of_length_le (by omega)
set_option maxHeartbeats 4000000 in
theorem iList_fn (l : List Int) (x : Int) (hl : l.length ≤ 9223372036854775807) : Go.Gar.Fn Tryd.prog 17 [.is l, .i .i64 x] (.is (listT l x)) := by
  have c1 := others26_fn l x hl
  have hlen := oth_len l x
  have hT : listT l x = (othR l x).1.take 3 := rfl
  generalize othR l x = oo at *
  obtain ⟨o, ok⟩ := oo
  replace hlen : o.length ≤ 11 := hlen
  replace hT : listT l x = o.take 3 := hT
  refine Fn_of_W eok Tryd.func17 rfl rfl (Nat.le_of_ble_eq_true rfl) ?_
  by_cases h : 3 < o.length
  · have f1 := min_pos h
    have c2 := Clone_fn (o.take 3) (by simp; omega)
    rw [hT]
    have nS := f1
    repeat' (first | ((with_reducible refine sg ?_); first | with_reducible rfl | ((with_reducible refine fitG ?_); first | kernel_rfl | rfl | (simp [fitT, fitF, nS]; done)) | with_reducible refine andT ?_ ?_ | with_reducible exact Nat.beq_refl _ | with_reducible exact fitsI_u8 _ | ((with_reducible refine decide_eq_true ?_); first | omega | (simp only [SZl, nS]; omega)) | decide | (simp [SZl, slc, allOneD, D.one, allOne, AV.one, nS]; done) | (simp [SZl, nS]; omega)) | ((with_reducible refine gWl ?_); first | (refine Wl_isMv rfl ?_; refine Xmv eok rfl rfl rfl rfl ?_) | refine Xq eok rfl rfl rfl rfl ?_ ?_ | refine Xn [0, 1, 4, 5] rfl ?_ | refine XF (c1) rfl rfl rfl rfl ?_ | refine XF (c2) rfl rfl rfl rfl ?_) | refine W_seq ?_ | refine W_region ?_ | refine W_skip ?_ | refine W_ret ?_ | refine W_block ?_ | refine W_exit ?_ | refine W_cond_t rfl ?_ | refine W_cond_f rfl ?_ | (refine W_cond rfl (fun hc => ?_) (fun hc => ?_) <;> (try simp only [HCl] at hc) <;> (try (exfalso; omega))))
    refine ⟨_, _, rfl, rfl, ?_⟩; simp [Frz_tup, Frz_ag, Frzs_cons, Frzs_nil, Frz_d, Frz_e0, Frz_sl, sln, isSl, slOk]
  · have f1 := min_neg h
    have c2 := Clone_fn (o.take o.length) (by simp; omega)
    rw [hT, take_all h]
    have nS := f1
    repeat' (first | ((with_reducible refine sg ?_); first | with_reducible rfl | ((with_reducible refine fitG ?_); first | kernel_rfl | rfl | (simp [fitT, fitF, nS]; done)) | with_reducible refine andT ?_ ?_ | with_reducible exact Nat.beq_refl _ | with_reducible exact fitsI_u8 _ | ((with_reducible refine decide_eq_true ?_); first | omega | (simp only [SZl, nS]; omega)) | decide | (simp [SZl, slc, allOneD, D.one, allOne, AV.one, nS]; done) | (simp [SZl, nS]; omega)) | ((with_reducible refine gWl ?_); first | (refine Wl_isMv rfl ?_; refine Xmv eok rfl rfl rfl rfl ?_) | refine Xq eok rfl rfl rfl rfl ?_ ?_ | refine Xn [0, 1, 4, 5] rfl ?_ | refine XF (c1) rfl rfl rfl rfl ?_ | refine XF (c2) rfl rfl rfl rfl ?_) | refine W_seq ?_ | refine W_region ?_ | refine W_skip ?_ | refine W_ret ?_ | refine W_block ?_ | refine W_exit ?_ | refine W_cond_t rfl ?_ | refine W_cond_f rfl ?_ | (refine W_cond rfl (fun hc => ?_) (fun hc => ?_) <;> (try simp only [HCl] at hc) <;> (try (exfalso; omega))))
    refine ⟨_, _, rfl, rfl, ?_⟩; simp [Frz_tup, Frz_ag, Frzs_cons, Frzs_nil, Frz_d, Frz_e0, Frz_sl, sln, isSl, slOk]
theorem oth_no {l : List Int} {x : Int} (h : ¬ (rightM l = true ∧ x ∈ l)) : othR l x = ([], false) := by
  unfold othR
  rw [if_neg]
  simpa using h
theorem oth_yes {l : List Int} {x : Int} (h : rightM l = true) (hx : x ∈ l) : othR l x = (rotT x l, true) := by
  unfold othR; rw [h, decide_eq_true hx]; rfl
set_option maxHeartbeats 4000000 in
theorem rList_fn (l : List Int) (x : Int) (hl : l.length ≤ 9223372036854775807) : Go.Gar.Fn Tryd.prog 18 [.is l, .i .i64 x] (.is (listT l x)) := by
  have c1 := rRight26_fn l hl
  have c2 := among_fn l x hl
  refine Fn_of_W eok Tryd.func18 rfl rfl (Nat.le_of_ble_eq_true rfl) ?_
  cases h : rightM l with
  | false =>
    rw [h] at c1
    have hT : listT l x = [] := by unfold listT; rw [oth_no (by rw [h]; simp)]; rfl
    have nS := True.intro
    repeat' (first | ((with_reducible refine sg ?_); first | with_reducible rfl | ((with_reducible refine fitG ?_); first | kernel_rfl | rfl | (simp [fitT, fitF, nS]; done)) | with_reducible refine andT ?_ ?_ | with_reducible exact Nat.beq_refl _ | with_reducible exact fitsI_u8 _ | ((with_reducible refine decide_eq_true ?_); first | omega | (simp only [SZl, nS]; omega)) | decide | (simp [SZl, slc, allOneD, D.one, allOne, AV.one, nS]; done) | (simp [SZl, nS]; omega)) | ((with_reducible refine gWl ?_); first | (refine Wl_isMv rfl ?_; refine Xmv eok rfl rfl rfl rfl ?_) | refine Xq eok rfl rfl rfl rfl ?_ ?_ | refine Xn [0, 1, 4, 5, 14] rfl ?_ | refine XF (c1) rfl rfl rfl rfl ?_ | refine Xs rfl rfl rfl ?_ | (refine Xsplit rfl rfl (fun hc => ?_) (fun hc => ?_) <;> (fail_if_success (with_reducible first | exact tF hc | exact fT hc)) <;> (try simp only [HCl] at hc) <;> (try (exfalso; omega)))) | refine W_seq ?_ | refine W_region ?_ | refine W_skip ?_ | refine W_ret ?_ | refine W_block ?_ | refine W_exit ?_ | refine W_cond_t rfl ?_ | refine W_cond_f rfl ?_ | (refine W_cond rfl (fun hc => ?_) (fun hc => ?_) <;> (try simp only [HCl] at hc) <;> (try (exfalso; omega))))
    refine ⟨_, _, rfl, rfl, ?_⟩; simp [Frz_tup, Frz_ag, Frzs_cons, Frzs_nil, Frz_d, Frz_e0, Frz_sl, sln, isSl, slOk, hT]
  | true =>
  rw [h] at c1
  by_cases hx : x ∈ l
  case neg =>
    rw [decide_eq_false hx] at c2
    have hT : listT l x = [] := by unfold listT; rw [oth_no (fun h => hx h.2)]; rfl
    have nS := True.intro
    repeat' (first | ((with_reducible refine sg ?_); first | with_reducible rfl | ((with_reducible refine fitG ?_); first | kernel_rfl | rfl | (simp [fitT, fitF, nS]; done)) | with_reducible refine andT ?_ ?_ | with_reducible exact Nat.beq_refl _ | with_reducible exact fitsI_u8 _ | ((with_reducible refine decide_eq_true ?_); first | omega | (simp only [SZl, nS]; omega)) | decide | (simp [SZl, slc, allOneD, D.one, allOne, AV.one, nS]; done) | (simp [SZl, nS]; omega)) | ((with_reducible refine gWl ?_); first | (refine Wl_isMv rfl ?_; refine Xmv eok rfl rfl rfl rfl ?_) | refine Xq eok rfl rfl rfl rfl ?_ ?_ | refine Xn [0, 1, 4, 5, 14] rfl ?_ | refine XF (c1) rfl rfl rfl rfl ?_ | refine XF (c2) rfl rfl rfl rfl ?_ | refine Xs rfl rfl rfl ?_ | (refine Xsplit rfl rfl (fun hc => ?_) (fun hc => ?_) <;> (fail_if_success (with_reducible first | exact tF hc | exact fT hc)) <;> (try simp only [HCl] at hc) <;> (try (exfalso; omega)))) | refine W_seq ?_ | refine W_region ?_ | refine W_skip ?_ | refine W_ret ?_ | refine W_block ?_ | refine W_exit ?_ | refine W_cond_t rfl ?_ | refine W_cond_f rfl ?_ | (refine W_cond rfl (fun hc => ?_) (fun hc => ?_) <;> (try simp only [HCl] at hc) <;> (try (exfalso; omega))))
    refine ⟨_, _, rfl, rfl, ?_⟩; simp [Frz_tup, Frz_ag, Frzs_cons, Frzs_nil, Frz_d, Frz_e0, Frz_sl, sln, isSl, slOk, hT]
  rw [decide_eq_true hx] at c2
  have c3 := rAll_fn l x h hx
  have hT : listT l x = (rotT x l).take 3 := by unfold listT; rw [oth_yes h hx]
  have hlen := oth_len l x
  rw [oth_yes h hx] at hlen
  replace hlen : (rotT x l).length ≤ 11 := hlen
  rw [hT]
  generalize rotT x l = o at *
  by_cases h3 : 3 < o.length
  · have f1 := min_pos h3
    have nS := f1
    repeat' (first | ((with_reducible refine sg ?_); first | with_reducible rfl | ((with_reducible refine fitG ?_); first | kernel_rfl | rfl | (simp [fitT, fitF, nS]; done)) | with_reducible refine andT ?_ ?_ | with_reducible exact Nat.beq_refl _ | with_reducible exact fitsI_u8 _ | ((with_reducible refine decide_eq_true ?_); first | omega | (simp only [SZl, nS]; omega)) | decide | (simp [SZl, slc, allOneD, D.one, allOne, AV.one, nS]; done) | (simp [SZl, nS]; omega)) | ((with_reducible refine gWl ?_); first | (refine Wl_isMv rfl ?_; refine Xmv eok rfl rfl rfl rfl ?_) | refine Xq eok rfl rfl rfl rfl ?_ ?_ | refine Xn [0, 1, 4, 5, 14] rfl ?_ | refine XF (c1) rfl rfl rfl rfl ?_ | refine XF (c2) rfl rfl rfl rfl ?_ | refine XF (c3) rfl rfl rfl rfl ?_ | refine Xs rfl rfl rfl ?_ | (refine Xsplit rfl rfl (fun hc => ?_) (fun hc => ?_) <;> (fail_if_success (with_reducible first | exact tF hc | exact fT hc)) <;> (try simp only [HCl] at hc) <;> (try (exfalso; omega)))) | refine W_seq ?_ | refine W_region ?_ | refine W_skip ?_ | refine W_ret ?_ | refine W_block ?_ | refine W_exit ?_ | refine W_cond_t rfl ?_ | refine W_cond_f rfl ?_ | (refine W_cond rfl (fun hc => ?_) (fun hc => ?_) <;> (try simp only [HCl] at hc) <;> (try (exfalso; omega))))
    refine ⟨_, _, rfl, rfl, ?_⟩; simp [Frz_tup, Frz_ag, Frzs_cons, Frzs_nil, Frz_d, Frz_e0, Frz_sl, sln, isSl, slOk, takeD]
  · have f1 := min_neg h3
    rw [take_all h3]
    have nS := f1
    repeat' (first | ((with_reducible refine sg ?_); first | with_reducible rfl | ((with_reducible refine fitG ?_); first | kernel_rfl | rfl | (simp [fitT, fitF, nS]; done)) | with_reducible refine andT ?_ ?_ | with_reducible exact Nat.beq_refl _ | with_reducible exact fitsI_u8 _ | ((with_reducible refine decide_eq_true ?_); first | omega | (simp only [SZl, nS]; omega)) | decide | (simp [SZl, slc, allOneD, D.one, allOne, AV.one, nS]; done) | (simp [SZl, nS]; omega)) | ((with_reducible refine gWl ?_); first | (refine Wl_isMv rfl ?_; refine Xmv eok rfl rfl rfl rfl ?_) | refine Xq eok rfl rfl rfl rfl ?_ ?_ | refine Xn [0, 1, 4, 5, 14] rfl ?_ | refine XF (c1) rfl rfl rfl rfl ?_ | refine XF (c2) rfl rfl rfl rfl ?_ | refine XF (c3) rfl rfl rfl rfl ?_ | refine Xs rfl rfl rfl ?_ | (refine Xsplit rfl rfl (fun hc => ?_) (fun hc => ?_) <;> (fail_if_success (with_reducible first | exact tF hc | exact fT hc)) <;> (try simp only [HCl] at hc) <;> (try (exfalso; omega)))) | refine W_seq ?_ | refine W_region ?_ | refine W_skip ?_ | refine W_ret ?_ | refine W_block ?_ | refine W_exit ?_ | refine W_cond_t rfl ?_ | refine W_cond_f rfl ?_ | (refine W_cond rfl (fun hc => ?_) (fun hc => ?_) <;> (try simp only [HCl] at hc) <;> (try (exfalso; omega))))
    refine ⟨_, _, rfl, rfl, ?_⟩; simp [Frz_tup, Frz_ag, Frzs_cons, Frzs_nil, Frz_d, Frz_e0, Frz_sl, sln, isSl, slOk, takeD]
def predT (l : List Int) (x : Int) : Int := (othR l x).1.getLastD (-1)
theorem last_at {o : List Int} (h : o ≠ []) : o.getD (o.length - 1) 0 = o.getLastD (-1) := by
  rw [List.getLastD_eq_getLast?, List.getLast?_eq_getElem?, List.getD_eq_getElem?_getD]
  have hp : 0 < o.length := List.length_pos_iff.2 h
  rw [List.getElem?_eq_getElem (show o.length - 1 < o.length by omega)]; rfl
set_option maxHeartbeats 4000000 in
theorem iPred_fn (l : List Int) (x : Int) (hl : l.length ≤ 9223372036854775807) : Go.Gar.Fn Tryd.prog 19 [.is l, .i .i64 x] (.i .i64 (predT l x)) := by
  have c1 := others26_fn l x hl
  have hlen := oth_len l x
  have hT : predT l x = (othR l x).1.getLastD (-1) := rfl
  generalize othR l x = oo at *
  obtain ⟨o, ok⟩ := oo
  replace hlen : o.length ≤ 11 := hlen
  replace hT : predT l x = o.getLastD (-1) := hT
  refine Fn_of_W eok Tryd.func19 rfl rfl (Nat.le_of_ble_eq_true rfl) ?_
  by_cases h : o = []
  · have f1 : ((o.length : Int) == 0) = true := eq_true' (by rw [h]; rfl)
    have hT2 : predT l x = -1 := by rw [hT, h]; rfl
    have nS := f1
    repeat' (first | ((with_reducible refine sg ?_); first | with_reducible rfl | ((with_reducible refine fitG ?_); first | kernel_rfl | rfl | (simp [fitT, fitF, nS]; done)) | with_reducible refine andT ?_ ?_ | with_reducible exact Nat.beq_refl _ | with_reducible exact fitsI_u8 _ | ((with_reducible refine decide_eq_true ?_); first | omega | (simp only [SZl, nS]; omega)) | decide | (simp [SZl, slc, allOneD, D.one, allOne, AV.one, nS]; done) | (simp [SZl, nS]; omega)) | ((with_reducible refine gWl ?_); first | (refine Wl_isMv rfl ?_; refine Xmv eok rfl rfl rfl rfl ?_) | refine Xq eok rfl rfl rfl rfl ?_ ?_ | refine Xn [0, 1, 4, 5, 15] rfl ?_ | refine XF (c1) rfl rfl rfl rfl ?_) | refine W_seq ?_ | refine W_region ?_ | refine W_skip ?_ | refine W_ret ?_ | refine W_block ?_ | refine W_exit ?_ | refine W_cond_t rfl ?_ | refine W_cond_f rfl ?_ | (refine W_cond rfl (fun hc => ?_) (fun hc => ?_) <;> (try simp only [HCl] at hc) <;> (try (exfalso; omega))))
    refine ⟨_, _, rfl, rfl, ?_⟩; simp [Frz_tup, Frz_ag, Frzs_cons, Frzs_nil, Frz_d, Frz_e0, Frz_sl, sln, isSl, slOk, hT2]
  · have hp : 0 < o.length := List.length_pos_iff.2 h
    have f1 : ((o.length : Int) == 0) = false := eq_false' (by omega)
    have f2 : (o.length : Int) - 1 = ((o.length - 1 : Nat) : Int) := by omega
    have gq := last_at h
    rw [hT]
    have nS := And.intro f1 (And.intro f2 gq)
    repeat' (first | ((with_reducible refine sg ?_); first | with_reducible rfl | ((with_reducible refine fitG ?_); first | kernel_rfl | rfl | (simp [fitT, fitF, nS]; done)) | with_reducible refine andT ?_ ?_ | with_reducible exact Nat.beq_refl _ | with_reducible exact fitsI_u8 _ | ((with_reducible refine decide_eq_true ?_); first | omega | (simp only [SZl, nS]; omega)) | decide | (simp [SZl, slc, allOneD, D.one, allOne, AV.one, nS]; done) | (simp [SZl, nS]; omega)) | ((with_reducible refine gWl ?_); first | (refine Wl_isMv rfl ?_; refine Xmv eok rfl rfl rfl rfl ?_) | refine Xq eok rfl rfl rfl rfl ?_ ?_ | refine Xn [0, 1, 4, 5, 15] rfl ?_ | refine XF (c1) rfl rfl rfl rfl ?_) | refine W_seq ?_ | refine W_region ?_ | refine W_skip ?_ | refine W_ret ?_ | refine W_block ?_ | refine W_exit ?_ | refine W_cond_t rfl ?_ | refine W_cond_f rfl ?_ | (refine W_cond rfl (fun hc => ?_) (fun hc => ?_) <;> (try simp only [HCl] at hc) <;> (try (exfalso; omega))))
    refine ⟨_, _, rfl, rfl, ?_⟩; simp [Frz_tup, Frz_ag, Frzs_cons, Frzs_nil, Frz_d, Frz_e0, Frz_sl, sln, isSl, slOk]
set_option maxHeartbeats 4000000 in
theorem rPred_fn (l : List Int) (x : Int) (hl : l.length ≤ 9223372036854775807) : Go.Gar.Fn Tryd.prog 20 [.is l, .i .i64 x] (.i .i64 (predT l x)) := by
  have c1 := rRight26_fn l hl
  have c2 := among_fn l x hl
  refine Fn_of_W eok Tryd.func20 rfl rfl (Nat.le_of_ble_eq_true rfl) ?_
  cases h : rightM l with
  | false =>
    rw [h] at c1
    have hT : predT l x = -1 := by unfold predT; rw [oth_no (by rw [h]; simp)]; rfl
    have nS := True.intro
    repeat' (first | ((with_reducible refine sg ?_); first | with_reducible rfl | ((with_reducible refine fitG ?_); first | kernel_rfl | rfl | (simp [fitT, fitF, nS]; done)) | with_reducible refine andT ?_ ?_ | with_reducible exact Nat.beq_refl _ | with_reducible exact fitsI_u8 _ | ((with_reducible refine decide_eq_true ?_); first | omega | (simp only [SZl, nS]; omega)) | decide | (simp [SZl, slc, allOneD, D.one, allOne, AV.one, nS]; done) | (simp [SZl, nS]; omega)) | ((with_reducible refine gWl ?_); first | (refine Wl_isMv rfl ?_; refine Xmv eok rfl rfl rfl rfl ?_) | refine Xq eok rfl rfl rfl rfl ?_ ?_ | refine Xn [0, 1, 4, 5, 19] rfl ?_ | refine XF (c1) rfl rfl rfl rfl ?_ | refine Xs rfl rfl rfl ?_ | (refine Xsplit rfl rfl (fun hc => ?_) (fun hc => ?_) <;> (fail_if_success (with_reducible first | exact tF hc | exact fT hc)) <;> (try simp only [HCl] at hc) <;> (try (exfalso; omega)))) | refine W_seq ?_ | refine W_region ?_ | refine W_skip ?_ | refine W_ret ?_ | refine W_block ?_ | refine W_exit ?_ | refine W_cond_t rfl ?_ | refine W_cond_f rfl ?_ | (refine W_cond rfl (fun hc => ?_) (fun hc => ?_) <;> (try simp only [HCl] at hc) <;> (try (exfalso; omega))))
    refine ⟨_, _, rfl, rfl, ?_⟩; simp [Frz_tup, Frz_ag, Frzs_cons, Frzs_nil, Frz_d, Frz_e0, Frz_sl, sln, isSl, slOk, hT]
  | true =>
  rw [h] at c1
  by_cases hx : x ∈ l
  case neg =>
    rw [decide_eq_false hx] at c2
    have hT : predT l x = -1 := by unfold predT; rw [oth_no (fun h => hx h.2)]; rfl
    have nS := True.intro
    repeat' (first | ((with_reducible refine sg ?_); first | with_reducible rfl | ((with_reducible refine fitG ?_); first | kernel_rfl | rfl | (simp [fitT, fitF, nS]; done)) | with_reducible refine andT ?_ ?_ | with_reducible exact Nat.beq_refl _ | with_reducible exact fitsI_u8 _ | ((with_reducible refine decide_eq_true ?_); first | omega | (simp only [SZl, nS]; omega)) | decide | (simp [SZl, slc, allOneD, D.one, allOne, AV.one, nS]; done) | (simp [SZl, nS]; omega)) | ((with_reducible refine gWl ?_); first | (refine Wl_isMv rfl ?_; refine Xmv eok rfl rfl rfl rfl ?_) | refine Xq eok rfl rfl rfl rfl ?_ ?_ | refine Xn [0, 1, 4, 5, 19] rfl ?_ | refine XF (c1) rfl rfl rfl rfl ?_ | refine XF (c2) rfl rfl rfl rfl ?_ | refine Xs rfl rfl rfl ?_ | (refine Xsplit rfl rfl (fun hc => ?_) (fun hc => ?_) <;> (fail_if_success (with_reducible first | exact tF hc | exact fT hc)) <;> (try simp only [HCl] at hc) <;> (try (exfalso; omega)))) | refine W_seq ?_ | refine W_region ?_ | refine W_skip ?_ | refine W_ret ?_ | refine W_block ?_ | refine W_exit ?_ | refine W_cond_t rfl ?_ | refine W_cond_f rfl ?_ | (refine W_cond rfl (fun hc => ?_) (fun hc => ?_) <;> (try simp only [HCl] at hc) <;> (try (exfalso; omega))))
    refine ⟨_, _, rfl, rfl, ?_⟩; simp [Frz_tup, Frz_ag, Frzs_cons, Frzs_nil, Frz_d, Frz_e0, Frz_sl, sln, isSl, slOk, hT]
  rw [decide_eq_true hx] at c2
  have c3 := rAll_fn l x h hx
  have hT : predT l x = (rotT x l).getLastD (-1) := by unfold predT; rw [oth_yes h hx]
  have hlr := rot_len (rightM_t h).2.2.1 hx
  have hl12 := (rightM_t h).2.1
  rw [hT]
  generalize rotT x l = o at *
  by_cases h1 : l.length = 1
  · have f1 : ((l.length : Int) == 1) = true := eq_true' (by omega)
    have ho : o = [] := List.length_eq_zero_iff.1 (by omega)
    rw [ho]
    have nS := f1
    repeat' (first | ((with_reducible refine sg ?_); first | with_reducible rfl | ((with_reducible refine fitG ?_); first | kernel_rfl | rfl | (simp [fitT, fitF, nS]; done)) | with_reducible refine andT ?_ ?_ | with_reducible exact Nat.beq_refl _ | with_reducible exact fitsI_u8 _ | ((with_reducible refine decide_eq_true ?_); first | omega | (simp only [SZl, nS]; omega)) | decide | (simp [SZl, slc, allOneD, D.one, allOne, AV.one, nS]; done) | (simp [SZl, nS]; omega)) | ((with_reducible refine gWl ?_); first | (refine Wl_isMv rfl ?_; refine Xmv eok rfl rfl rfl rfl ?_) | refine Xq eok rfl rfl rfl rfl ?_ ?_ | refine Xn [0, 1, 4, 5, 19] rfl ?_ | refine XF (c1) rfl rfl rfl rfl ?_ | refine XF (c2) rfl rfl rfl rfl ?_ | refine Xs rfl rfl rfl ?_ | (refine Xsplit rfl rfl (fun hc => ?_) (fun hc => ?_) <;> (fail_if_success (with_reducible first | exact tF hc | exact fT hc)) <;> (try simp only [HCl] at hc) <;> (try (exfalso; omega)))) | refine W_seq ?_ | refine W_region ?_ | refine W_skip ?_ | refine W_ret ?_ | refine W_block ?_ | refine W_exit ?_ | refine W_cond_t rfl ?_ | refine W_cond_f rfl ?_ | (refine W_cond rfl (fun hc => ?_) (fun hc => ?_) <;> (try simp only [HCl] at hc) <;> (try (exfalso; omega))))
    refine ⟨_, _, rfl, rfl, ?_⟩; simp [Frz_tup, Frz_ag, Frzs_cons, Frzs_nil, Frz_d, Frz_e0, Frz_sl, sln, isSl, slOk]
  · have f1 : ((l.length : Int) == 1) = false := eq_false' (by omega)
    have hp : 0 < o.length := by omega
    have f2 : (o.length : Int) - 1 = ((o.length - 1 : Nat) : Int) := by omega
    have gq := last_at (List.length_pos_iff.1 hp)
    have nS := And.intro f1 (And.intro f2 gq)
    repeat' (first | ((with_reducible refine sg ?_); first | with_reducible rfl | ((with_reducible refine fitG ?_); first | kernel_rfl | rfl | (simp [fitT, fitF, nS]; done)) | with_reducible refine andT ?_ ?_ | with_reducible exact Nat.beq_refl _ | with_reducible exact fitsI_u8 _ | ((with_reducible refine decide_eq_true ?_); first | omega | (simp only [SZl, nS]; omega)) | decide | (simp [SZl, slc, allOneD, D.one, allOne, AV.one, nS]; done) | (simp [SZl, nS]; omega)) | ((with_reducible refine gWl ?_); first | (refine Wl_isMv rfl ?_; refine Xmv eok rfl rfl rfl rfl ?_) | refine Xq eok rfl rfl rfl rfl ?_ ?_ | refine Xn [0, 1, 4, 5, 19] rfl ?_ | refine XF (c1) rfl rfl rfl rfl ?_ | refine XF (c2) rfl rfl rfl rfl ?_ | refine XF (c3) rfl rfl rfl rfl ?_ | refine Xs rfl rfl rfl ?_ | (refine Xsplit rfl rfl (fun hc => ?_) (fun hc => ?_) <;> (fail_if_success (with_reducible first | exact tF hc | exact fT hc)) <;> (try simp only [HCl] at hc) <;> (try (exfalso; omega)))) | refine W_seq ?_ | refine W_region ?_ | refine W_skip ?_ | refine W_ret ?_ | refine W_block ?_ | refine W_exit ?_ | refine W_cond_t rfl ?_ | refine W_cond_f rfl ?_ | (refine W_cond rfl (fun hc => ?_) (fun hc => ?_) <;> (try simp only [HCl] at hc) <;> (try (exfalso; omega))))
    refine ⟨_, _, rfl, rfl, ?_⟩; simp [Frz_tup, Frz_ag, Frzs_cons, Frzs_nil, Frz_d, Frz_e0, Frz_sl, sln, isSl, slOk]
/-- Owners, as the program tells them: at, least. -/
def arcS (key : Int) (s : Int × Int) (b : Int) : Int × Int := if farT key b < s.2 then (plT b, farT key b) else s
theorem arc_own {key : Int} : ∀ (l : List Int) (o : Int), l.foldl (arcS key) (o, farT key o) = (l.foldl (owS key) o, farT key (l.foldl (owS key) o))
  | [], o => rfl
  | a :: l, o => by
    simp only [List.foldl_cons]
    by_cases h : farT key a < farT key o
    · have e1 : arcS key (o, farT key o) a = (plT a, farT key (plT a)) := by
        unfold arcS; rw [if_pos h]
        have : farT key (plT a) = farT key a := by unfold farT plT; omega
        rw [this]
      have e2 : owS key o a = plT a := by unfold owS; rw [if_pos h]
      rw [e1, e2]; exact arc_own l _
    · have e1 : arcS key (o, farT key o) a = (o, farT key o) := by unfold arcS; rw [if_neg h]
      have e2 : owS key o a = o := by unfold owS; rw [if_neg h]
      rw [e1, e2]; exact arc_own l _
theorem arc_own0 {key : Int} (l : List Int) : l.foldl (arcS key) (0, 65536) = (ownT key l, if l = [] then 65536 else farT key (ownT key l)) := by
  cases l with
  | nil => rfl
  | cons a l =>
    have h1 := farT_lt key a
    have e1 : arcS key (0, 65536) a = (plT a, farT key (plT a)) := by
      unfold arcS; rw [if_pos (by show farT key a < 65536; omega)]
      have : farT key (plT a) = farT key a := by unfold farT plT; omega
      rw [this]
    have e2 : owS key (plT a) a = plT a := by
      unfold owS; split <;> rfl
    have e3 : ownT key (a :: l) = l.foldl (owS key) (plT a) := by
      show (a :: l).foldl (owS key) (plT a) = _
      rw [List.foldl_cons, e2]
    rw [List.foldl_cons, e1, arc_own, e3]; rfl
theorem QJ_other {P : Program} {ro : Option Nat} {α : Type} {c : Code} {l l' : Nat} {I : α → Prop} {St0 : α → St} {μ : α → Nat} {k : Nat} {Q : Exit → St → Prop} {m j : Nat} {S' : St} {r : Code} (h1 : Nat.beq l' l = false) (h2 : findLabel c l' = some r) (h : W P ro r S' (QJ P ro c l I St0 μ k Q m j)) : QJ P ro c l I St0 μ k Q m (j + 1) (.goto l') S' := by
  unfold QJ; rw [h1]; simp only [h2]; exact h
def arcSt (key : Int) (l : List Int) (k : Nat) : St := ⟨[(0, .d (.is l)), (1, .d (.i .i64 key)), (4, .d (.i .i64 0)), (5, .d (.b false)), (6, .d (.i .i64 ((l.take k).foldl (arcS key) (0, 65536)).1)), (7, .d (.i .i64 ((l.take k).foldl (arcS key) (0, 65536)).2)), (8, .d (.i .i64 k))], [], 34⟩
set_option maxHeartbeats 8000000 in
theorem aOwner_fn (l : List Int) (key : Int) (hl : l.length ≤ 100000) : Go.Gar.Fn Tryd.prog 48 [.is l, .i .i64 key] (.tup [.i .i64 (ownT key l), .b (decide (l ≠ []))]) := by
  refine Fn_of_W eok Tryd.func48 rfl rfl (Nat.le_of_ble_eq_true rfl) ?_
  have nS := True.intro
  repeat' (first | ((with_reducible refine sg ?_); first | with_reducible rfl | ((with_reducible refine fitG ?_); first | kernel_rfl | rfl | (simp [fitT, fitF, nS]; done)) | with_reducible refine andT ?_ ?_ | with_reducible exact Nat.beq_refl _ | with_reducible exact fitsI_u8 _ | ((with_reducible refine decide_eq_true ?_); first | omega | (simp only [SZl, nS]; omega)) | decide | (simp [SZl, slc, allOneD, D.one, allOne, AV.one, nS]; done) | (simp [SZl, nS]; omega)) | ((with_reducible refine gWl ?_); first | (refine Wl_isMv rfl ?_; refine Xmv eok rfl rfl rfl rfl ?_) | refine Xq eok rfl rfl rfl rfl ?_ ?_ | refine Xn [0, 1, 4, 5, 6, 7, 8, 9, 13, 22] rfl ?_) | refine W_seq ?_ | refine W_region ?_ | refine W_skip ?_ | refine W_ret ?_ | refine W_block ?_ | refine W_exit ?_ | refine W_goto ?_ | refine W_label ?_ | refine W_cond_t rfl ?_ | refine W_cond_f rfl ?_ | (refine W_cond rfl (fun hc => ?_) (fun hc => ?_) <;> (try simp only [HCl] at hc) <;> (try (exfalso; omega))))
  have hend := arc_own0 (key := key) l
  refine W_scopeI 1 _ (fun k => k ≤ l.length) (arcSt key l) (fun k => l.length - k) (l.length + 1) 2 2 rfl ?_ ?_
  · by_cases h0 : 0 < l.length
    · obtain ⟨p, hp⟩ := get_of h0
      have gp := getD_of hp
      have f0 := eq_false' (show (0 : Int) ≠ (l.length : Int) by omega)
      have hlt := farT_lt key p
      have c1 := Far_fn key p
      have c2 := Place_fn p
      have f1 : decide (farT key p < 65536) = true := decide_eq_true (by omega)
      have hs : (l.take 1).foldl (arcS key) (0, 65536) = (plT p, farT key p) := by
        rw [foldl_take (arcS key) (0, 65536) hp]
        exact if_pos (show farT key p < 65536 by omega)
      have nS := And.intro gp (And.intro f0 f1)
      repeat' (first | ((with_reducible refine sg ?_); first | with_reducible rfl | ((with_reducible refine fitG ?_); first | kernel_rfl | rfl | (simp [fitT, fitF, nS]; done)) | with_reducible refine andT ?_ ?_ | with_reducible exact Nat.beq_refl _ | with_reducible exact fitsI_u8 _ | ((with_reducible refine decide_eq_true ?_); first | omega | (simp only [SZl, nS]; omega)) | decide | (simp [SZl, slc, allOneD, D.one, allOne, AV.one, nS]; done) | (simp [SZl, nS]; omega)) | ((with_reducible refine gWl ?_); first | (refine Wl_isMv rfl ?_; refine Xmv eok rfl rfl rfl rfl ?_) | refine Xq eok rfl rfl rfl rfl ?_ ?_ | refine Xn [0, 1, 4, 5, 6, 7, 8, 9, 13, 22] rfl ?_ | refine XF (c1) rfl rfl rfl rfl ?_ | refine XF (c2) rfl rfl rfl rfl ?_) | refine W_seq ?_ | refine W_region ?_ | refine W_skip ?_ | refine W_ret ?_ | refine W_block ?_ | refine W_exit ?_ | refine W_goto ?_ | refine W_label ?_ | refine W_cond_t rfl ?_ | refine W_cond_f rfl ?_ | (refine W_cond rfl (fun hc => ?_) (fun hc => ?_) <;> (try simp only [HCl] at hc) <;> (try (exfalso; omega))))
      refine ⟨1, h0, (show l.length - 1 < l.length + 1 by omega), Nat.le_of_ble_eq_true rfl, ?_⟩
      unfold arcSt
      exact TSub.cut rfl (by repeat' (first | exact True.intro | refine And.intro (by (first | rfl | ((with_reducible_and_instances refine congrArg (fun z => some (AV.d (D.i _ z))) ?_); omega) | (refine congrArg (fun z => some (AV.d (D.i _ z))) (?_ : (_ : Int) = _); omega) | (refine congrArg some ?_; simp only [hs]; done) | (refine congrArg some ?_; simp [hs]; done))) ?_)) (by repeat' (first | exact True.intro | refine And.intro (Or.inr rfl) ?_ | refine And.intro (Or.inl ⟨rfl, rfl⟩) ?_ | refine And.intro (Or.inr (by simp only [hs])) ?_ | refine And.intro (Or.inr (by simp [hs])) ?_)) (by first | rfl | (simp (decide := true) [heapOk, Blk.ok, AV.oks, AV.ok, hk]; done)) rfl
    · have e : l = [] := List.length_eq_zero_iff.1 (by omega)
      subst e
      have f0 : ((([] : List Int).length : Int) == 0) = true := rfl
      have nS := True.intro
      repeat' (first | ((with_reducible refine sg ?_); first | with_reducible rfl | ((with_reducible refine fitG ?_); first | kernel_rfl | rfl | (simp [fitT, fitF, nS]; done)) | with_reducible refine andT ?_ ?_ | with_reducible exact Nat.beq_refl _ | with_reducible exact fitsI_u8 _ | ((with_reducible refine decide_eq_true ?_); first | omega | (simp only [SZl, nS]; omega)) | decide | (simp [SZl, slc, allOneD, D.one, allOne, AV.one, nS]; done) | (simp [SZl, nS]; omega)) | ((with_reducible refine gWl ?_); first | (refine Wl_isMv rfl ?_; refine Xmv eok rfl rfl rfl rfl ?_) | refine Xq eok rfl rfl rfl rfl ?_ ?_ | refine Xn [0, 1, 4, 5, 6, 7, 8, 9, 13, 22] rfl ?_) | refine W_seq ?_ | refine W_region ?_ | (refine QJ_other rfl rfl ?_) | refine W_skip ?_ | refine W_ret ?_ | refine W_block ?_ | refine W_exit ?_ | refine W_goto ?_ | refine W_label ?_ | refine W_cond_t rfl ?_ | refine W_cond_f rfl ?_ | (refine W_cond rfl (fun hc => ?_) (fun hc => ?_) <;> (try simp only [HCl] at hc) <;> (try (exfalso; omega))))
      refine ⟨_, _, rfl, rfl, ?_⟩; simp [Frz_tup, Frz_ag, Frzs_cons, Frzs_nil, Frz_d, Frz_e0, Frz_sl, sln, isSl, slOk, ownT]
  intro k hk
  unfold arcSt
  by_cases hkl : k < l.length
  · obtain ⟨p, hp⟩ := get_of hkl
    have gp := getD_of hp
    have f0 := eq_false' (show ((k : Nat) : Int) ≠ (l.length : Int) by omega)
    have hs := foldl_take (arcS key) (0, 65536) hp
    generalize (l.take k).foldl (arcS key) (0, 65536) = b at *
    obtain ⟨a, m⟩ := b
    have c1 := Far_fn key p
    have c2 := Place_fn p
    by_cases h : farT key p < m
    · have f1 : decide (farT key p < m) = true := decide_eq_true h
      have hs' : (l.take (k + 1)).foldl (arcS key) (0, 65536) = (plT p, farT key p) := by rw [hs]; exact if_pos h
      have nS := And.intro gp (And.intro f0 f1)
      repeat' (first | ((with_reducible refine sg ?_); first | with_reducible rfl | ((with_reducible refine fitG ?_); first | kernel_rfl | rfl | (simp [fitT, fitF, nS]; done)) | with_reducible refine andT ?_ ?_ | with_reducible exact Nat.beq_refl _ | with_reducible exact fitsI_u8 _ | ((with_reducible refine decide_eq_true ?_); first | omega | (simp only [SZl, nS]; omega)) | decide | (simp [SZl, slc, allOneD, D.one, allOne, AV.one, nS]; done) | (simp [SZl, nS]; omega)) | ((with_reducible refine gWl ?_); first | (refine Wl_isMv rfl ?_; refine Xmv eok rfl rfl rfl rfl ?_) | refine Xq eok rfl rfl rfl rfl ?_ ?_ | refine Xn [0, 1, 4, 5, 6, 7, 8, 9, 13, 22] rfl ?_ | refine XF (c1) rfl rfl rfl rfl ?_ | refine XF (c2) rfl rfl rfl rfl ?_) | refine W_seq ?_ | refine W_region ?_ | refine W_skip ?_ | refine W_ret ?_ | refine W_block ?_ | refine W_exit ?_ | refine W_goto ?_ | refine W_label ?_ | refine W_cond_t rfl ?_ | refine W_cond_f rfl ?_ | (refine W_cond rfl (fun hc => ?_) (fun hc => ?_) <;> (try simp only [HCl] at hc) <;> (try (exfalso; omega))))
      refine ⟨k + 1, hkl, (show l.length - (k + 1) < l.length - k by omega), Nat.le_of_ble_eq_true rfl, ?_⟩
      exact TSub.cut rfl (by repeat' (first | exact True.intro | refine And.intro (by (first | rfl | ((with_reducible_and_instances refine congrArg (fun z => some (AV.d (D.i _ z))) ?_); omega) | (refine congrArg (fun z => some (AV.d (D.i _ z))) (?_ : (_ : Int) = _); omega) | (refine congrArg some ?_; simp only [hs']; done) | (refine congrArg some ?_; simp [hs']; done))) ?_)) (by repeat' (first | exact True.intro | refine And.intro (Or.inr rfl) ?_ | refine And.intro (Or.inl ⟨rfl, rfl⟩) ?_ | refine And.intro (Or.inr (by simp only [hs'])) ?_ | refine And.intro (Or.inr (by simp [hs'])) ?_)) (by first | rfl | (simp (decide := true) [heapOk, Blk.ok, AV.oks, AV.ok, hk]; done)) rfl
    · have f1 : decide (farT key p < m) = false := decide_eq_false h
      have hs' : (l.take (k + 1)).foldl (arcS key) (0, 65536) = (a, m) := by rw [hs]; exact if_neg h
      have nS := And.intro gp (And.intro f0 f1)
      repeat' (first | ((with_reducible refine sg ?_); first | with_reducible rfl | ((with_reducible refine fitG ?_); first | kernel_rfl | rfl | (simp [fitT, fitF, nS]; done)) | with_reducible refine andT ?_ ?_ | with_reducible exact Nat.beq_refl _ | with_reducible exact fitsI_u8 _ | ((with_reducible refine decide_eq_true ?_); first | omega | (simp only [SZl, nS]; omega)) | decide | (simp [SZl, slc, allOneD, D.one, allOne, AV.one, nS]; done) | (simp [SZl, nS]; omega)) | ((with_reducible refine gWl ?_); first | (refine Wl_isMv rfl ?_; refine Xmv eok rfl rfl rfl rfl ?_) | refine Xq eok rfl rfl rfl rfl ?_ ?_ | refine Xn [0, 1, 4, 5, 6, 7, 8, 9, 13, 22] rfl ?_ | refine XF (c1) rfl rfl rfl rfl ?_ | refine XF (c2) rfl rfl rfl rfl ?_) | refine W_seq ?_ | refine W_region ?_ | refine W_skip ?_ | refine W_ret ?_ | refine W_block ?_ | refine W_exit ?_ | refine W_goto ?_ | refine W_label ?_ | refine W_cond_t rfl ?_ | refine W_cond_f rfl ?_ | (refine W_cond rfl (fun hc => ?_) (fun hc => ?_) <;> (try simp only [HCl] at hc) <;> (try (exfalso; omega))))
      refine ⟨k + 1, hkl, (show l.length - (k + 1) < l.length - k by omega), Nat.le_of_ble_eq_true rfl, ?_⟩
      exact TSub.cut rfl (by repeat' (first | exact True.intro | refine And.intro (by (first | rfl | ((with_reducible_and_instances refine congrArg (fun z => some (AV.d (D.i _ z))) ?_); omega) | (refine congrArg (fun z => some (AV.d (D.i _ z))) (?_ : (_ : Int) = _); omega) | (refine congrArg some ?_; simp only [hs']; done) | (refine congrArg some ?_; simp [hs']; done))) ?_)) (by repeat' (first | exact True.intro | refine And.intro (Or.inr rfl) ?_ | refine And.intro (Or.inl ⟨rfl, rfl⟩) ?_ | refine And.intro (Or.inr (by simp only [hs'])) ?_ | refine And.intro (Or.inr (by simp [hs'])) ?_)) (by first | rfl | (simp (decide := true) [heapOk, Blk.ok, AV.oks, AV.ok, hk]; done)) rfl
  · have e : k = l.length := by omega
    subst e
    rw [List.take_length, hend]
    have f0 := eq_true' (rfl : (l.length : Int) = (l.length : Int))
    by_cases he : l = []
    · have f1 : decide ((if l = [] then (65536 : Int) else farT key (ownT key l)) < 65536) = decide (l ≠ []) := by rw [decide_eq_false (show ¬ (l ≠ []) from fun h => h he), if_pos he]; rfl
      have nS := And.intro f0 f1
      repeat' (first | ((with_reducible refine sg ?_); first | with_reducible rfl | ((with_reducible refine fitG ?_); first | kernel_rfl | rfl | (simp [fitT, fitF, nS]; done)) | with_reducible refine andT ?_ ?_ | with_reducible exact Nat.beq_refl _ | with_reducible exact fitsI_u8 _ | ((with_reducible refine decide_eq_true ?_); first | omega | (simp only [SZl, nS]; omega)) | decide | (simp [SZl, slc, allOneD, D.one, allOne, AV.one, nS]; done) | (simp [SZl, nS]; omega)) | ((with_reducible refine gWl ?_); first | (refine Wl_isMv rfl ?_; refine Xmv eok rfl rfl rfl rfl ?_) | refine Xq eok rfl rfl rfl rfl ?_ ?_ | refine Xn [0, 1, 4, 5, 6, 7, 8, 9, 13, 22] rfl ?_) | refine W_seq ?_ | refine W_region ?_ | (refine QJ_other rfl rfl ?_) | refine W_skip ?_ | refine W_ret ?_ | refine W_block ?_ | refine W_exit ?_ | refine W_goto ?_ | refine W_label ?_ | refine W_cond_t rfl ?_ | refine W_cond_f rfl ?_ | (refine W_cond rfl (fun hc => ?_) (fun hc => ?_) <;> (try simp only [HCl] at hc) <;> (try (exfalso; omega))))
      refine ⟨_, _, rfl, rfl, ?_⟩; simp [Frz_tup, Frz_ag, Frzs_cons, Frzs_nil, Frz_d, Frz_e0, Frz_sl, sln, isSl, slOk, f1]
    · have f1 : decide ((if l = [] then (65536 : Int) else farT key (ownT key l)) < 65536) = decide (l ≠ []) := by rw [if_neg he, decide_eq_true he]; exact decide_eq_true (farT_lt _ _).2
      have nS := And.intro f0 f1
      repeat' (first | ((with_reducible refine sg ?_); first | with_reducible rfl | ((with_reducible refine fitG ?_); first | kernel_rfl | rfl | (simp [fitT, fitF, nS]; done)) | with_reducible refine andT ?_ ?_ | with_reducible exact Nat.beq_refl _ | with_reducible exact fitsI_u8 _ | ((with_reducible refine decide_eq_true ?_); first | omega | (simp only [SZl, nS]; omega)) | decide | (simp [SZl, slc, allOneD, D.one, allOne, AV.one, nS]; done) | (simp [SZl, nS]; omega)) | ((with_reducible refine gWl ?_); first | (refine Wl_isMv rfl ?_; refine Xmv eok rfl rfl rfl rfl ?_) | refine Xq eok rfl rfl rfl rfl ?_ ?_ | refine Xn [0, 1, 4, 5, 6, 7, 8, 9, 13, 22] rfl ?_) | refine W_seq ?_ | refine W_region ?_ | (refine QJ_other rfl rfl ?_) | refine W_skip ?_ | refine W_ret ?_ | refine W_block ?_ | refine W_exit ?_ | refine W_goto ?_ | refine W_label ?_ | refine W_cond_t rfl ?_ | refine W_cond_f rfl ?_ | (refine W_cond rfl (fun hc => ?_) (fun hc => ?_) <;> (try simp only [HCl] at hc) <;> (try (exfalso; omega))))
      refine ⟨_, _, rfl, rfl, ?_⟩; simp [Frz_tup, Frz_ag, Frzs_cons, Frzs_nil, Frz_d, Frz_e0, Frz_sl, sln, isSl, slOk, f1]
end Go.Proofs.YtjiejhikjlhchaaDoor
