/- Written by a program (pre.py) from the source of the same name. -/
/- How a circle ought to be: the law that all is as the document tells. -/
import Derived.Test.YtjiejhikjlhchaaDoorIdealJ
set_option linter.unusedSimpArgs false
set_option linter.unusedVariables false
set_option linter.unnecessarySimpa false
namespace Go.Proofs.YtjiejhikjlhchaaDoor
open Go.Gar
set_option maxRecDepth 4000

theorem hold_len (l : List Int) (p : Int) : (holdT l p).length ≤ 3 := by
  unfold holdT
  split
  · simp only [List.length_take]; omega
  · exact Nat.zero_le _
theorem viewR_len (l : List Int) (x : Int) (base : List Int) : (viewR l x base).1.base.length ≤ base.length ∧ (viewR l x base).1.list.length ≤ 3 := by
  unfold viewR
  split
  · exact ⟨Nat.le_refl _, listT_len l x⟩
  · exact ⟨Nat.zero_le _, Nat.zero_le _⟩
theorem sameV_refl (v : View) : sameV v v = true := by simp [sameV]
set_option maxHeartbeats 16000000 in
theorem idealTells_fn (l base : List Int) (x : Int) (v : View) (hx : i64 x) (hv : i64 v.id) (hl : l.length ≤ 9223372036854775807) : Go.Gar.Fn Tryd.prog 3 [.is l, .is base, .i .i64 x, v.d] (.b true) := by
  have cG := vGreat_fn v
  refine Fn_of_W eok Tryd.func3 rfl rfl (Nat.le_of_ble_eq_true rfl) ?_
  by_cases h1 : l.length > 20
  · have f1 : decide ((l.length : Int) > 20) = true := decide_eq_true (by omega)
    obtain ⟨vi, vb, vl, vp, vf⟩ := v
    have nS := f1
    repeat' (first | ((with_reducible refine sg ?_); first | with_reducible rfl | ((with_reducible refine fitG ?_); first | kernel_rfl | rfl | (simp [fitT, fitF, nS]; done)) | with_reducible refine andT ?_ ?_ | with_reducible exact Nat.beq_refl _ | with_reducible exact fitsI_u8 _ | ((with_reducible refine decide_eq_true ?_); first | omega | (simp only [SZl, nS]; omega)) | decide | (simp [SZl, slc, allOneD, D.one, allOne, AV.one, nS]; done) | (simp [SZl, nS]; omega)) | ((with_reducible refine gWl ?_); first | (refine Wl_isMv rfl ?_; refine Xmv eok rfl rfl rfl rfl ?_) | refine Xq eok rfl rfl rfl rfl ?_ ?_ | refine Xn [0, 1, 2, 3, 7, 8, 9, 10, 11, 12, 24, 71] rfl ?_ | refine XF (iwakes_fn) rfl rfl rfl rfl ?_ | refine Xa eok rfl rfl rfl rfl rfl ?_ ?_ | refine Xw eok rfl rfl rfl rfl ?_ ?_ | refine Xs rfl rfl rfl ?_ | (refine Xsplit rfl rfl (fun hc => ?_) (fun hc => ?_) <;> (fail_if_success (with_reducible first | exact tF hc | exact fT hc)) <;> (try simp only [HCl] at hc) <;> (try (exfalso; omega)))) | ((with_reducible refine gWd ?_); first | (refine Wd_isMv rfl ?_; refine Ymv eok rfl rfl (fun _ => rfl) rfl rfl ?_) | refine Yp eok rfl rfl (fun _ => rfl) rfl rfl ?_ ?_ | refine Yq rfl rfl rfl rfl rfl ?_ ?_ | refine Ys rfl rfl rfl rfl ?_ | refine YF (iwakes_fn) rfl rfl rfl rfl rfl ?_ | refine Ya eok rfl rfl rfl rfl rfl rfl ?_ ?_ | refine Yw eok rfl rfl rfl rfl rfl ?_ ?_ | refine Yn [0, 1, 2, 3, 7, 8, 9, 10, 11, 12, 24, 71] [] mixed eok (by kernel_rfl) True.intro rfl ?_ | (refine Ysplit rfl rfl (fun hc => ?_) (fun hc => ?_) <;> (fail_if_success (with_reducible first | exact tF hc | exact fT hc)) <;> (try simp only [HCl] at hc) <;> (try (exfalso; omega)))) | refine W_seq ?_ | refine W_region ?_ | refine W_any T.get ?_ | refine W_skip ?_ | refine W_ret ?_ | refine W_block ?_ | refine W_exit ?_ | refine W_cond_t rfl ?_ | refine W_cond_f rfl ?_ | (refine W_cond rfl (fun hc => ?_) (fun hc => ?_) <;> (try simp only [HCl] at hc) <;> (try (exfalso; omega))))
    refine ⟨_, _, rfl, rfl, ?_⟩; simp [Frz_tup, Frz_ag, Frzs_cons, Frzs_nil, Frz_d, Frz_e0, Frz_sl, sln, isSl, slOk]
  have f1 : decide ((l.length : Int) > 20) = false := decide_eq_false (by omega)
  by_cases h2 : base.length > 20
  · have f2 : decide ((base.length : Int) > 20) = true := decide_eq_true (by omega)
    obtain ⟨vi, vb, vl, vp, vf⟩ := v
    have nS := And.intro f1 f2
    repeat' (first | ((with_reducible refine sg ?_); first | with_reducible rfl | ((with_reducible refine fitG ?_); first | kernel_rfl | rfl | (simp [fitT, fitF, nS]; done)) | with_reducible refine andT ?_ ?_ | with_reducible exact Nat.beq_refl _ | with_reducible exact fitsI_u8 _ | ((with_reducible refine decide_eq_true ?_); first | omega | (simp only [SZl, nS]; omega)) | decide | (simp [SZl, slc, allOneD, D.one, allOne, AV.one, nS]; done) | (simp [SZl, nS]; omega)) | ((with_reducible refine gWl ?_); first | (refine Wl_isMv rfl ?_; refine Xmv eok rfl rfl rfl rfl ?_) | refine Xq eok rfl rfl rfl rfl ?_ ?_ | refine Xn [0, 1, 2, 3, 7, 8, 9, 10, 11, 12, 24, 71] rfl ?_ | refine XF (iwakes_fn) rfl rfl rfl rfl ?_ | refine Xa eok rfl rfl rfl rfl rfl ?_ ?_ | refine Xw eok rfl rfl rfl rfl ?_ ?_ | refine Xs rfl rfl rfl ?_ | (refine Xsplit rfl rfl (fun hc => ?_) (fun hc => ?_) <;> (fail_if_success (with_reducible first | exact tF hc | exact fT hc)) <;> (try simp only [HCl] at hc) <;> (try (exfalso; omega)))) | ((with_reducible refine gWd ?_); first | (refine Wd_isMv rfl ?_; refine Ymv eok rfl rfl (fun _ => rfl) rfl rfl ?_) | refine Yp eok rfl rfl (fun _ => rfl) rfl rfl ?_ ?_ | refine Yq rfl rfl rfl rfl rfl ?_ ?_ | refine Ys rfl rfl rfl rfl ?_ | refine YF (iwakes_fn) rfl rfl rfl rfl rfl ?_ | refine Ya eok rfl rfl rfl rfl rfl rfl ?_ ?_ | refine Yw eok rfl rfl rfl rfl rfl ?_ ?_ | refine Yn [0, 1, 2, 3, 7, 8, 9, 10, 11, 12, 24, 71] [] mixed eok (by kernel_rfl) True.intro rfl ?_ | (refine Ysplit rfl rfl (fun hc => ?_) (fun hc => ?_) <;> (fail_if_success (with_reducible first | exact tF hc | exact fT hc)) <;> (try simp only [HCl] at hc) <;> (try (exfalso; omega)))) | refine W_seq ?_ | refine W_region ?_ | refine W_any T.get ?_ | refine W_skip ?_ | refine W_ret ?_ | refine W_block ?_ | refine W_exit ?_ | refine W_cond_t rfl ?_ | refine W_cond_f rfl ?_ | (refine W_cond rfl (fun hc => ?_) (fun hc => ?_) <;> (try simp only [HCl] at hc) <;> (try (exfalso; omega))))
    refine ⟨_, _, rfl, rfl, ?_⟩; simp [Frz_tup, Frz_ag, Frzs_cons, Frzs_nil, Frz_d, Frz_e0, Frz_sl, sln, isSl, slOk]
  have f2 : decide ((base.length : Int) > 20) = false := decide_eq_false (by omega)
  by_cases h3 : v.base.length > 20 ∨ v.list.length > 20
  · rw [decide_eq_true h3] at cG
    obtain ⟨vi, vb, vl, vp, vf⟩ := v
    have nS := And.intro f1 f2
    repeat' (first | ((with_reducible refine sg ?_); first | with_reducible rfl | ((with_reducible refine fitG ?_); first | kernel_rfl | rfl | (simp [fitT, fitF, nS]; done)) | with_reducible refine andT ?_ ?_ | with_reducible exact Nat.beq_refl _ | with_reducible exact fitsI_u8 _ | ((with_reducible refine decide_eq_true ?_); first | omega | (simp only [SZl, nS]; omega)) | decide | (simp [SZl, slc, allOneD, D.one, allOne, AV.one, nS]; done) | (simp [SZl, nS]; omega)) | ((with_reducible refine gWl ?_); first | (refine Wl_isMv rfl ?_; refine Xmv eok rfl rfl rfl rfl ?_) | refine Xq eok rfl rfl rfl rfl ?_ ?_ | refine Xn [0, 1, 2, 3, 7, 8, 9, 10, 11, 12, 24, 71] rfl ?_ | refine XF (cG) rfl rfl rfl rfl ?_ | refine XF (iwakes_fn) rfl rfl rfl rfl ?_ | refine Xa eok rfl rfl rfl rfl rfl ?_ ?_ | refine Xw eok rfl rfl rfl rfl ?_ ?_ | refine Xs rfl rfl rfl ?_ | (refine Xsplit rfl rfl (fun hc => ?_) (fun hc => ?_) <;> (fail_if_success (with_reducible first | exact tF hc | exact fT hc)) <;> (try simp only [HCl] at hc) <;> (try (exfalso; omega)))) | ((with_reducible refine gWd ?_); first | (refine Wd_isMv rfl ?_; refine Ymv eok rfl rfl (fun _ => rfl) rfl rfl ?_) | refine Yp eok rfl rfl (fun _ => rfl) rfl rfl ?_ ?_ | refine Yq rfl rfl rfl rfl rfl ?_ ?_ | refine Ys rfl rfl rfl rfl ?_ | refine YF (cG) rfl rfl rfl rfl rfl ?_ | refine YF (iwakes_fn) rfl rfl rfl rfl rfl ?_ | refine Ya eok rfl rfl rfl rfl rfl rfl ?_ ?_ | refine Yw eok rfl rfl rfl rfl rfl ?_ ?_ | refine Yn [0, 1, 2, 3, 7, 8, 9, 10, 11, 12, 24, 71] [] mixed eok (by kernel_rfl) True.intro rfl ?_ | (refine Ysplit rfl rfl (fun hc => ?_) (fun hc => ?_) <;> (fail_if_success (with_reducible first | exact tF hc | exact fT hc)) <;> (try simp only [HCl] at hc) <;> (try (exfalso; omega)))) | refine W_seq ?_ | refine W_region ?_ | refine W_any T.get ?_ | refine W_skip ?_ | refine W_ret ?_ | refine W_block ?_ | refine W_exit ?_ | refine W_cond_t rfl ?_ | refine W_cond_f rfl ?_ | (refine W_cond rfl (fun hc => ?_) (fun hc => ?_) <;> (try simp only [HCl] at hc) <;> (try (exfalso; omega))))
    refine ⟨_, _, rfl, rfl, ?_⟩; simp [Frz_tup, Frz_ag, Frzs_cons, Frzs_nil, Frz_d, Frz_e0, Frz_sl, sln, isSl, slOk]
  rw [decide_eq_false h3] at cG
  have n1 := viewR_len l x base
  have n2 := mem_len l
  have n3 := listT_len l x
  have n4 := hold_len l x
  have c1 := iView_fn l x base hl (by omega)
  have c2 := rView_fn l x base hx hl (by omega)
  have c3 := Members_fn l (by omega)
  have c4 := rMembers_fn l (by omega)
  have c5 := ints_fn (memT l) (memT l) (by omega)
  rw [decide_eq_true rfl] at c5
  have c6 := iRight_fn l hl
  have c7 := rRight26_fn l hl
  have c8 := iList_fn l x hl
  have c9 := rList_fn l x hl
  have d1 := ints_fn (listT l x) (listT l x) (by omega)
  rw [decide_eq_true rfl] at d1
  have d2 := iPred_fn l x hl
  have d3 := rPred_fn l x hl
  have d4 := iHolders_fn l x hl
  have d5 := rHolders_fn l x hl hx
  have d6 := ints_fn (holdT l x) (holdT l x) (by omega)
  rw [decide_eq_true rfl] at d6
  have d7 := rSameV_fn (viewR l x base).1 (viewR l x base).1 (by omega) (by omega)
  rw [sameV_refl] at d7
  have d8 := iIs_fn l v hl (by omega) (by omega)
  have d9 := rIs_fn l v hv hl (by omega) (by omega)
  clear n1 n2 n3 n4
  generalize viewR l x base = vR at *
  generalize memT l = mT at *
  generalize listT l x = lT at *
  generalize predT l x = pT at *
  generalize holdT l x = hT at *
  generalize isT l v = iT at *
  generalize rightM l = rM at *
  have g1 := ne_false (rfl : pT = pT)
  obtain ⟨⟨wi, wb, wl, wp, wf⟩, we⟩ := vR
  have g2 := eq_true' (rfl : we = we)
  obtain ⟨vi, vb, vl, vp, vf⟩ := v
  cases rM <;> cases iT
  all_goals
    have nS := And.intro f1 (And.intro f2 (And.intro g1 g2))
    repeat' (first | ((with_reducible refine sg ?_); first | with_reducible rfl | ((with_reducible refine fitG ?_); first | kernel_rfl | rfl | (simp [fitT, fitF, nS]; done)) | with_reducible refine andT ?_ ?_ | with_reducible exact Nat.beq_refl _ | with_reducible exact fitsI_u8 _ | ((with_reducible refine decide_eq_true ?_); first | omega | (simp only [SZl, nS]; omega)) | decide | (simp [SZl, slc, allOneD, D.one, allOne, AV.one, nS]; done) | (simp [SZl, nS]; omega)) | ((with_reducible refine gWl ?_); first | (refine Wl_isMv rfl ?_; refine Xmv eok rfl rfl rfl rfl ?_) | refine Xq eok rfl rfl rfl rfl ?_ ?_ | refine Xn [0, 1, 2, 3, 7, 8, 9, 10, 11, 12, 24, 71] rfl ?_ | refine XF (cG) rfl rfl rfl rfl ?_ | refine XF (iwakes_fn) rfl rfl rfl rfl ?_ | refine XF (c1) rfl rfl rfl rfl ?_ | refine XF (c2) rfl rfl rfl rfl ?_ | refine XF (c3) rfl rfl rfl rfl ?_ | refine XF (c4) rfl rfl rfl rfl ?_ | refine XF (c5) rfl rfl rfl rfl ?_ | refine XF (c6) rfl rfl rfl rfl ?_ | refine XF (c7) rfl rfl rfl rfl ?_ | refine XF (c8) rfl rfl rfl rfl ?_ | refine XF (c9) rfl rfl rfl rfl ?_ | refine XF (d1) rfl rfl rfl rfl ?_ | refine XF (d2) rfl rfl rfl rfl ?_ | refine XF (d3) rfl rfl rfl rfl ?_ | refine XF (d4) rfl rfl rfl rfl ?_ | refine XF (d5) rfl rfl rfl rfl ?_ | refine XF (d6) rfl rfl rfl rfl ?_ | refine XF (d7) rfl rfl rfl rfl ?_ | refine XF (d8) rfl rfl rfl rfl ?_ | refine XF (d9) rfl rfl rfl rfl ?_ | refine Xa eok rfl rfl rfl rfl rfl ?_ ?_ | refine Xw eok rfl rfl rfl rfl ?_ ?_ | refine Xs rfl rfl rfl ?_ | (refine Xsplit rfl rfl (fun hc => ?_) (fun hc => ?_) <;> (fail_if_success (with_reducible first | exact tF hc | exact fT hc)) <;> (try simp only [HCl] at hc) <;> (try (exfalso; omega)))) | ((with_reducible refine gWd ?_); first | (refine Wd_isMv rfl ?_; refine Ymv eok rfl rfl (fun _ => rfl) rfl rfl ?_) | refine Yp eok rfl rfl (fun _ => rfl) rfl rfl ?_ ?_ | refine Yq rfl rfl rfl rfl rfl ?_ ?_ | refine Ys rfl rfl rfl rfl ?_ | refine YF (cG) rfl rfl rfl rfl rfl ?_ | refine YF (iwakes_fn) rfl rfl rfl rfl rfl ?_ | refine YF (c1) rfl rfl rfl rfl rfl ?_ | refine YF (c2) rfl rfl rfl rfl rfl ?_ | refine YF (c3) rfl rfl rfl rfl rfl ?_ | refine YF (c4) rfl rfl rfl rfl rfl ?_ | refine YF (c5) rfl rfl rfl rfl rfl ?_ | refine YF (c6) rfl rfl rfl rfl rfl ?_ | refine YF (c7) rfl rfl rfl rfl rfl ?_ | refine YF (c8) rfl rfl rfl rfl rfl ?_ | refine YF (c9) rfl rfl rfl rfl rfl ?_ | refine YF (d1) rfl rfl rfl rfl rfl ?_ | refine YF (d2) rfl rfl rfl rfl rfl ?_ | refine YF (d3) rfl rfl rfl rfl rfl ?_ | refine YF (d4) rfl rfl rfl rfl rfl ?_ | refine YF (d5) rfl rfl rfl rfl rfl ?_ | refine YF (d6) rfl rfl rfl rfl rfl ?_ | refine YF (d7) rfl rfl rfl rfl rfl ?_ | refine YF (d8) rfl rfl rfl rfl rfl ?_ | refine YF (d9) rfl rfl rfl rfl rfl ?_ | refine Ya eok rfl rfl rfl rfl rfl rfl ?_ ?_ | refine Yw eok rfl rfl rfl rfl rfl ?_ ?_ | refine Yn [0, 1, 2, 3, 7, 8, 9, 10, 11, 12, 24, 71] [] mixed eok (by kernel_rfl) True.intro rfl ?_ | (refine Ysplit rfl rfl (fun hc => ?_) (fun hc => ?_) <;> (fail_if_success (with_reducible first | exact tF hc | exact fT hc)) <;> (try simp only [HCl] at hc) <;> (try (exfalso; omega)))) | refine W_seq ?_ | refine W_region ?_ | refine W_any T.get ?_ | refine W_skip ?_ | refine W_ret ?_ | refine W_block ?_ | refine W_exit ?_ | refine W_cond_t rfl ?_ | refine W_cond_f rfl ?_ | (refine W_cond rfl (fun hc => ?_) (fun hc => ?_) <;> (try simp only [HCl] at hc) <;> (try (exfalso; omega))))
    refine ⟨_, _, rfl, rfl, ?_⟩; simp [Frz_tup, Frz_ag, Frzs_cons, Frzs_nil, Frz_d, Frz_e0, Frz_sl, sln, isSl, slOk]
end Go.Proofs.YtjiejhikjlhchaaDoor
