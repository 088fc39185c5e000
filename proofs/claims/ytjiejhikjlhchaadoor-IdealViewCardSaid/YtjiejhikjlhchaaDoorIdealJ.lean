/- Written by a program (pre.py) from the source of the same name. -/
/- How a circle ought to be: what the document says of three members. -/
import Derived.Test.YtjiejhikjlhchaaDoorIdealI
set_option linter.unusedSimpArgs false
set_option linter.unusedVariables false
set_option linter.unnecessarySimpa false
namespace Go.Proofs.YtjiejhikjlhchaaDoor
open Go.Gar
set_option maxRecDepth 4000

abbrev wiV : D := .agg [.i .i64 9, .is [1, 5], .is [1, 5], .i .i64 5, .i .i64 1, .i .i64 1, .i .i64 1, .i .i64 1, .i .i64 1, .i .i64 1, .i .i64 1, .i .i64 1, .i .i64 1, .i .i64 1, .i .i64 1, .i .i64 1, .i .i64 1, .i .i64 1, .i .i64 1, .i .i64 1]
abbrev wiW : D := .agg [.i .i64 9, .is [1, 5], .is [1, 5], .i .i64 (-1), .i .i64 1, .i .i64 1, .i .i64 1, .i .i64 1, .i .i64 1, .i .i64 1, .i .i64 1, .i .i64 1, .i .i64 1, .i .i64 1, .i .i64 1, .i .i64 1, .i .i64 1, .i .i64 1, .i .i64 1, .i .i64 1]
def vI9 : View := ⟨9, [1, 5], [1, 5], 5, fun _ => 1⟩
def vW9 : View := ⟨9, [1, 5], [1, 5], -1, fun _ => 1⟩
theorem wk1 : Go.Gar.Fn Tryd.prog 10 [.is [1, 5, 9], .i .i64 9, .is [1, 5]] (.tup [wiV, .i .i64 0]) := by
  have h := iView_fn [1, 5, 9] 9 [1, 5] (by decide) (by decide)
  rw [show viewR [1, 5, 9] 9 [1, 5] = (viewI [1, 5, 9] 9 [1, 5], 0) from if_pos (by decide +kernel)] at h
  have e1 : listT [1, 5, 9] 9 = [1, 5] := by decide +kernel
  have e2 : predT [1, 5, 9] 9 = 5 := by decide +kernel
  have e3 : fins (fingT [1, 5, 9] 9) = fins (fun _ => 1) := by decide +kernel
  simp only [fins, List.cons.injEq, and_true] at e3
  obtain ⟨a0, a1, a2, a3, a4, a5, a6, a7, a8, a9, b0, b1, b2, b3, b4, b5⟩ := e3
  simp only [View.d, View.cells, viewI, e1, e2, a0, a1, a2, a3, a4, a5, a6, a7, a8, a9, b0, b1, b2, b3, b4, b5] at h
  exact h
theorem wk2 : Go.Gar.Fn Tryd.prog 10 [.is [1, 5, 9], .i .i64 8, .is [1, 5]] (.tup [zeroV.d, .i .i64 2]) := by
  have h := iView_fn [1, 5, 9] 8 [1, 5] (by decide) (by decide)
  rw [show viewR [1, 5, 9] 8 [1, 5] = (zeroV, 2) from if_neg (by decide +kernel)] at h; exact h
theorem wk3 : Go.Gar.Fn Tryd.prog 13 [.is [9, 1, -4, 5, 9, 70000]] (.is [1, 5, 9]) := by
  have h := Members_fn [9, 1, -4, 5, 9, 70000] (by decide)
  obtain ⟨h1, h2⟩ := memT_spec [9, 1, -4, 5, 9, 70000]
  rw [show memT [9, 1, -4, 5, 9, 70000] = [1, 5, 9] from pw_unique h1 (by decide) fun x => (h2 x).trans (by
    simp only [List.mem_cons, List.mem_nil_iff, or_false, isPl, decide_eq_true_eq]; omega)] at h
  exact h
theorem wk4 : Go.Gar.Fn Tryd.prog 12 [.is [1, 5, 9], .is [1, 5, 9]] (.b true) := ints_fn [1, 5, 9] [1, 5, 9] (by decide)
theorem wk5 : Go.Gar.Fn Tryd.prog 15 [.is [1, 5, 9]] (.b true) := by
  have h := iRight_fn [1, 5, 9] (by decide)
  rw [show rightM [1, 5, 9] = true by decide +kernel] at h; exact h
theorem wk6 : Go.Gar.Fn Tryd.prog 15 [.is [5, 1]] (.b false) := by
  have h := iRight_fn [5, 1] (by decide)
  rw [show rightM [5, 1] = false by decide +kernel] at h; exact h
theorem wk7 : Go.Gar.Fn Tryd.prog 15 [.is []] (.b false) := by
  have h := iRight_fn [] (by decide)
  rw [show rightM [] = false by decide +kernel] at h; exact h
theorem wk8 : Go.Gar.Fn Tryd.prog 17 [.is [1, 5, 9], .i .i64 9] (.is [1, 5]) := by
  have h := iList_fn [1, 5, 9] 9 (by decide)
  rw [show listT [1, 5, 9] 9 = [1, 5] by decide +kernel] at h; exact h
theorem wk9 : Go.Gar.Fn Tryd.prog 12 [.is [1, 5], .is [1, 5]] (.b true) := ints_fn [1, 5] [1, 5] (by decide)
theorem wk10 : Go.Gar.Fn Tryd.prog 19 [.is [1, 5, 9], .i .i64 9] (.i .i64 5) := by
  have h := iPred_fn [1, 5, 9] 9 (by decide)
  rw [show predT [1, 5, 9] 9 = 5 by decide +kernel] at h; exact h
theorem wk11 : Go.Gar.Fn Tryd.prog 21 [.is [1, 5, 9], .i .i64 6] (.is [9, 1, 5]) := by
  have h := iHolders_fn [1, 5, 9] 6 (by decide)
  rw [show holdT [1, 5, 9] 6 = [9, 1, 5] by decide +kernel] at h; exact h
theorem wk12 : Go.Gar.Fn Tryd.prog 12 [.is [9, 1, 5], .is [9, 1, 5]] (.b true) := ints_fn [9, 1, 5] [9, 1, 5] (by decide)
theorem wk13 : Go.Gar.Fn Tryd.prog 17 [.is [1, 5, 9], .i .i64 8] (.is []) := by
  have h := iList_fn [1, 5, 9] 8 (by decide)
  rw [show listT [1, 5, 9] 8 = [] by decide +kernel] at h; exact h
theorem wk14 : Go.Gar.Fn Tryd.prog 19 [.is [4], .i .i64 4] (.i .i64 (-1)) := by
  have h := iPred_fn [4] 4 (by decide)
  rw [show predT [4] 4 = -1 by decide +kernel] at h; exact h
theorem wk15 : Go.Gar.Fn Tryd.prog 24 [.is [1, 5, 9], wiV] (.b true) := by
  have h := iIs_fn [1, 5, 9] vI9 (by decide) (by decide) (by decide)
  rw [show isT [1, 5, 9] vI9 = true by decide +kernel] at h; exact h
theorem wk16 : Go.Gar.Fn Tryd.prog 24 [.is [1, 5, 9], wiW] (.b false) := by
  have h := iIs_fn [1, 5, 9] vW9 (by decide) (by decide) (by decide)
  rw [show isT [1, 5, 9] vW9 = false by decide +kernel] at h; exact h
set_option maxHeartbeats 16000000 in
theorem iwakes_fn : Go.Gar.Fn Tryd.prog 9 [] (.b true) := by
  refine Fn_of_W eok Tryd.func9 rfl rfl (Nat.le_of_ble_eq_true rfl) ?_
  have nS := True.intro
  repeat' (first | ((with_reducible refine sg ?_); first | with_reducible rfl | ((with_reducible refine fitG ?_); first | kernel_rfl | rfl | (simp [fitT, fitF, nS]; done)) | with_reducible refine andT ?_ ?_ | with_reducible exact Nat.beq_refl _ | with_reducible exact fitsI_u8 _ | ((with_reducible refine decide_eq_true ?_); first | omega | (simp only [SZl, nS]; omega)) | decide | (simp [SZl, slc, allOneD, D.one, allOne, AV.one, nS]; done) | (simp [SZl, nS]; omega)) | ((with_reducible refine gWl ?_); first | (refine Wl_isMv rfl ?_; refine Xmv eok rfl rfl rfl rfl ?_) | refine Xq eok rfl rfl rfl rfl ?_ ?_ | refine Xn [0, 1, 2, 3, 5, 6] rfl ?_ | refine XF (wk1) rfl rfl rfl rfl ?_ | refine XF (wk2) rfl rfl rfl rfl ?_ | refine XF (wk3) rfl rfl rfl rfl ?_ | refine XF (wk4) rfl rfl rfl rfl ?_ | refine XF (wk5) rfl rfl rfl rfl ?_ | refine XF (wk6) rfl rfl rfl rfl ?_ | refine XF (wk8) rfl rfl rfl rfl ?_ | refine XF (wk9) rfl rfl rfl rfl ?_ | refine XF (wk10) rfl rfl rfl rfl ?_ | refine XF (wk11) rfl rfl rfl rfl ?_ | refine XF (wk12) rfl rfl rfl rfl ?_ | refine XF (wk13) rfl rfl rfl rfl ?_ | refine XF (wk14) rfl rfl rfl rfl ?_ | refine XF (wk15) rfl rfl rfl rfl ?_ | refine XF (wk16) rfl rfl rfl rfl ?_ | refine XFz (wk7) rfl rfl rfl rfl (by first | (simp [AsD, Frzs, Frz, isSl, sln, slOk]; done) | (repeat' (first | rfl | trivial | refine ⟨rfl, rfl, by simp [slOk]⟩ | refine ⟨_, _, rfl, ?_, ?_⟩ | refine ⟨_, rfl, ?_⟩))) ?_ | refine Xa eok rfl rfl rfl rfl rfl ?_ ?_ | refine Xw eok rfl rfl rfl rfl ?_ ?_ | refine Xs rfl rfl rfl ?_ | (refine Xsplit rfl rfl (fun hc => ?_) (fun hc => ?_) <;> (fail_if_success (with_reducible first | exact tF hc | exact fT hc)) <;> (try simp only [HCl] at hc) <;> (try (exfalso; omega)))) | refine W_seq ?_ | refine W_region ?_ | refine W_skip ?_ | refine W_ret ?_ | refine W_block ?_ | refine W_exit ?_ | refine W_cond_t rfl ?_ | refine W_cond_f rfl ?_ | (refine W_cond rfl (fun hc => ?_) (fun hc => ?_) <;> (try simp only [HCl] at hc) <;> (try (exfalso; omega))))
  refine ⟨_, _, rfl, rfl, ?_⟩; simp [Frz_tup, Frz_ag, Frzs_cons, Frzs_nil, Frz_d, Frz_e0, Frz_sl, sln, isSl, slOk]
end Go.Proofs.YtjiejhikjlhchaaDoor
