/- Written by a program (pre.py) from the source of the same name. -/
/- Views: what the document says of two anchors, of a death. -/
import Derived.Test.YtflikcmbbljgeaaViewJ
import Derived.Test.YtflikcmbbljgeaaSkips
set_option linter.unusedSimpArgs false
set_option linter.unusedVariables false
set_option linter.unnecessarySimpa false
namespace Go.Proofs.Ytflikcmbbljgeaa
open Go.Gar
set_option maxRecDepth 4000

abbrev wv5 : D := .agg [.i .i64 5, .is [1, 9], .is [], .i .i64 (-1), .i .i64 (-1), .i .i64 (-1), .i .i64 (-1), .i .i64 (-1), .i .i64 (-1), .i .i64 (-1), .i .i64 (-1), .i .i64 (-1), .i .i64 (-1), .i .i64 (-1), .i .i64 (-1), .i .i64 (-1), .i .i64 (-1), .i .i64 (-1), .i .i64 (-1), .i .i64 (-1)]
abbrev wv9 : D := .agg [.i .i64 9, .is [1, 9], .is [], .i .i64 (-1), .i .i64 (-1), .i .i64 (-1), .i .i64 (-1), .i .i64 (-1), .i .i64 (-1), .i .i64 (-1), .i .i64 (-1), .i .i64 (-1), .i .i64 (-1), .i .i64 (-1), .i .i64 (-1), .i .i64 (-1), .i .i64 (-1), .i .i64 (-1), .i .i64 (-1), .i .i64 (-1)]
abbrev wvL : D := .agg [.i .i64 5, .is [1, 9], .is [7, 9, 1], .i .i64 (-1), .i .i64 (-1), .i .i64 (-1), .i .i64 (-1), .i .i64 (-1), .i .i64 (-1), .i .i64 (-1), .i .i64 (-1), .i .i64 (-1), .i .i64 (-1), .i .i64 (-1), .i .i64 (-1), .i .i64 (-1), .i .i64 (-1), .i .i64 (-1), .i .i64 (-1), .i .i64 (-1)]
abbrev wvW : D := .agg [.i .i64 5, .is [1, 9], .is [7, 9, 1], .i .i64 7, .i .i64 (-1), .i .i64 (-1), .i .i64 (-1), .i .i64 7, .i .i64 (-1), .i .i64 (-1), .i .i64 (-1), .i .i64 (-1), .i .i64 (-1), .i .i64 (-1), .i .i64 (-1), .i .i64 (-1), .i .i64 (-1), .i .i64 (-1), .i .i64 (-1), .i .i64 (-1)]
abbrev wvD : D := .agg [.i .i64 5, .is [1, 9], .is [9, 1], .i .i64 (-1), .i .i64 (-1), .i .i64 (-1), .i .i64 (-1), .i .i64 (-1), .i .i64 (-1), .i .i64 (-1), .i .i64 (-1), .i .i64 (-1), .i .i64 (-1), .i .i64 (-1), .i .i64 (-1), .i .i64 (-1), .i .i64 (-1), .i .i64 (-1), .i .i64 (-1), .i .i64 (-1)]
def vL : View := ⟨5, [1, 9], [7, 9, 1], -1, fun _ => -1⟩
def vW : View := ⟨5, [1, 9], [7, 9, 1], 7, fun i => if i = 3 then 7 else -1⟩
def vD : View := ⟨5, [1, 9], [9, 1], -1, fun _ => -1⟩
theorem vW_right : rightV vW = true := by decide +kernel
theorem kw_w : kwT vW = [7, 9, 1] := by
  obtain ⟨h1, h2⟩ := kwT_spec vW_right
  refine upT_unique (id := 5) h1 (by decide) fun x => (h2 x).trans ?_
  have e : allV vW = [1, 9, 7, 9, 1, 7, -1, -1, -1, 7, -1, -1, -1, -1, -1, -1, -1, -1, -1, -1, -1, -1] := by decide +kernel
  rw [e]
  show _ ∧ x ≠ -1 ∧ x ≠ 5 ↔ _
  simp only [List.mem_cons, List.mem_nil_iff, or_false]
  omega
theorem ww1 : Go.Gar.Fn Try.prog 31 [.i .i64 5, .is [1, 9]] (.tup [wv5, .i .i64 0]) := by
  have h := New_fn 5 [1, 9] (by decide)
  rw [show newT 5 [1, 9] = (newV 5 [1, 9], 0) from if_pos (by decide +kernel)] at h; exact h
theorem ww2 : Go.Gar.Fn Try.prog 31 [.i .i64 9, .is [1, 9]] (.tup [wv9, .i .i64 0]) := by
  have h := New_fn 9 [1, 9] (by decide)
  rw [show newT 9 [1, 9] = (newV 9 [1, 9], 0) from if_pos (by decide +kernel)] at h; exact h
theorem ww3 : Go.Gar.Fn Try.prog 31 [.i .i64 5, .is [9, 1]] (.tup [zeroV.d, .i .i64 2]) := by
  have h := New_fn 5 [9, 1] (by decide)
  rw [show newT 5 [9, 1] = (zeroV, 2) from if_neg (by decide +kernel)] at h; exact h
theorem ww4 : Go.Gar.Fn Try.prog 45 [wv5, .is [7, 9, 1]] wvL := by
  have h := Listed_fn (newV 5 [1, 9]) [7, 9, 1] (by decide) (by decide) (by decide)
  rw [show listedT (newV 5 [1, 9]) [7, 9, 1] = vL from if_pos (by decide +kernel)] at h; exact h
theorem ww5 : Go.Gar.Fn Try.prog 43 [wvW, .i .i64 7] wvD := by
  have h := Dead_fn vW 7 (by decide) (by decide)
  rw [show deadT vW 7 = ⟨5, [1, 9], [9, 1], -1, fun i => if vW.f i = 7 then -1 else vW.f i⟩ from if_pos (by decide +kernel)] at h; exact h
theorem ww6 : Go.Gar.Fn Try.prog 41 [wvW] (.is [7, 9, 1]) := by
  have h := Known_fn vW (by decide) (by decide)
  rw [kw_w] at h; exact h
theorem ww7 : Go.Gar.Fn Try.prog 36 [wv5] (.i .i64 9) := by
  have h := Anchor_fn (newV 5 [1, 9]) (by decide) (by decide)
  rw [show anT (newV 5 [1, 9]) = 9 by decide +kernel] at h; exact h
theorem ww8 : Go.Gar.Fn Try.prog 36 [wv9] (.i .i64 1) := by
  have h := Anchor_fn (newV 9 [1, 9]) (by decide) (by decide)
  rw [show anT (newV 9 [1, 9]) = 1 by decide +kernel] at h; exact h
theorem ww9 : Go.Gar.Fn Try.prog 38 [wv5] (.i .i64 9) := by
  have h := vFirst_fn (newV 5 [1, 9]) (by decide) (by decide)
  rw [show fiT (newV 5 [1, 9]) = 9 by decide +kernel] at h; exact h
theorem ww10 : Go.Gar.Fn Try.prog 38 [wvW] (.i .i64 7) := by
  have h := vFirst_fn vW (by decide) (by decide)
  rw [show fiT vW = 7 by decide +kernel] at h; exact h
theorem ww11 : Go.Gar.Fn Try.prog 38 [wvD] (.i .i64 9) := by
  have h := vFirst_fn vD (by decide) (by decide)
  rw [show fiT vD = 9 by decide +kernel] at h; exact h
theorem ww12 : Go.Gar.Fn Try.prog 43 [wvW, .i .i64 9] wvW := by
  have h := Dead_fn vW 9 (by decide) (by decide)
  rw [show deadT vW 9 = vW from if_neg (by decide +kernel)] at h; exact h
theorem ww13 : Go.Gar.Fn Try.prog 47 [wvW, wvW] (.b true) := by
  have h := SameV_fn vW vW (by decide) (by decide)
  rw [show sameV vW vW = true by decide +kernel] at h; exact h
theorem ww14 : Go.Gar.Fn Try.prog 34 [wvW] (.b true) := by
  have h := vRight_fn vW (by decide) (by decide)
  rw [vW_right] at h; exact h
theorem ww15 : Go.Gar.Fn Try.prog 36 [zeroV.d] (.i .i64 (-1)) := by
  have h := Anchor_fn zeroV (by decide) (by decide)
  rw [show anT zeroV = -1 by decide +kernel] at h; exact h
theorem ww16 : Go.Gar.Fn Try.prog 40 [.is [9, 1], .is [9, 1]] (.b true) := by
  have h := ints_fn [9, 1] [9, 1] (by decide)
  exact h
theorem ww17 : Go.Gar.Fn Try.prog 40 [.is [7, 9, 1], .is [7, 9, 1]] (.b true) := by
  have h := ints_fn [7, 9, 1] [7, 9, 1] (by decide)
  exact h
set_option maxHeartbeats 16000000 in
theorem vwakes_fn : Go.Gar.Fn Try.prog 30 [] (.b true) := by
  refine Fn_of_W eok Try.func30 rfl rfl (Nat.le_of_ble_eq_true rfl) ?_
  have nS := True.intro
  repeat' (first | ((with_reducible refine sg ?_); first | with_reducible rfl | ((with_reducible refine fitG ?_); first | kernel_rfl | rfl | (simp [fitT, fitF, nS]; done)) | with_reducible refine andT ?_ ?_ | with_reducible exact Nat.beq_refl _ | with_reducible exact fitsI_u8 _ | ((with_reducible refine decide_eq_true ?_); first | omega | (simp only [SZl, nS]; omega)) | decide | (simp [SZl, slc, allOneD, D.one, allOne, AV.one, nS]; done) | (simp [SZl, nS]; omega)) | ((with_reducible refine gWl ?_); first | (refine Wl_isMv rfl ?_; refine Xmv eok rfl rfl rfl rfl ?_) | refine Xq eok rfl rfl rfl rfl ?_ ?_ | refine Xn [0, 1, 2, 3, 4, 6, 7, 8, 9] rfl ?_ | refine XF (ww1) rfl rfl rfl rfl ?_ | refine XF (ww2) rfl rfl rfl rfl ?_ | refine XF (ww3) rfl rfl rfl rfl ?_ | refine XF (ww4) rfl rfl rfl rfl ?_ | refine XF (ww5) rfl rfl rfl rfl ?_ | refine XF (ww6) rfl rfl rfl rfl ?_ | refine XF (ww7) rfl rfl rfl rfl ?_ | refine XF (ww8) rfl rfl rfl rfl ?_ | refine XF (ww9) rfl rfl rfl rfl ?_ | refine XF (ww10) rfl rfl rfl rfl ?_ | refine XF (ww11) rfl rfl rfl rfl ?_ | refine XF (ww12) rfl rfl rfl rfl ?_ | refine XF (ww13) rfl rfl rfl rfl ?_ | refine XF (ww14) rfl rfl rfl rfl ?_ | refine XF (ww16) rfl rfl rfl rfl ?_ | refine XF (ww17) rfl rfl rfl rfl ?_ | refine XFz (ww15) rfl rfl rfl rfl (by first | (simp [AsD, Frzs, Frz, isSl, sln, slOk]; done) | (repeat' (first | rfl | trivial | refine ⟨rfl, rfl, by simp [slOk]⟩ | refine ⟨_, _, rfl, ?_, ?_⟩ | refine ⟨_, rfl, ?_⟩))) ?_ | refine Xa eok rfl rfl rfl rfl rfl ?_ ?_ | refine Xw eok rfl rfl rfl rfl ?_ ?_ | refine Xs rfl rfl rfl ?_ | (refine Xsplit rfl rfl (fun hc => ?_) (fun hc => ?_) <;> (fail_if_success (with_reducible first | exact tF hc | exact fT hc)) <;> (try simp only [HCl] at hc) <;> (try (exfalso; omega)))) | ((with_reducible refine gWd ?_); first | (refine Wd_isMv rfl ?_; refine Ymv eok rfl rfl (fun _ => rfl) rfl rfl ?_) | refine Yp eok rfl rfl (fun _ => rfl) rfl rfl ?_ ?_ | refine Yq rfl rfl rfl rfl rfl ?_ ?_ | refine Ys rfl rfl rfl rfl ?_ | refine YF (ww1) rfl rfl rfl rfl rfl ?_ | refine YF (ww2) rfl rfl rfl rfl rfl ?_ | refine YF (ww3) rfl rfl rfl rfl rfl ?_ | refine YF (ww4) rfl rfl rfl rfl rfl ?_ | refine YF (ww5) rfl rfl rfl rfl rfl ?_ | refine YF (ww6) rfl rfl rfl rfl rfl ?_ | refine YF (ww7) rfl rfl rfl rfl rfl ?_ | refine YF (ww8) rfl rfl rfl rfl rfl ?_ | refine YF (ww9) rfl rfl rfl rfl rfl ?_ | refine YF (ww10) rfl rfl rfl rfl rfl ?_ | refine YF (ww11) rfl rfl rfl rfl rfl ?_ | refine YF (ww12) rfl rfl rfl rfl rfl ?_ | refine YF (ww13) rfl rfl rfl rfl rfl ?_ | refine YF (ww14) rfl rfl rfl rfl rfl ?_ | refine YF (ww16) rfl rfl rfl rfl rfl ?_ | refine YF (ww17) rfl rfl rfl rfl rfl ?_ | refine YFz (ww15) rfl rfl rfl rfl rfl (by first | (simp [AsD, Frzs, Frz, isSl, sln, slOk]; done) | (repeat' (first | rfl | trivial | refine ⟨rfl, rfl, by simp [slOk]⟩ | refine ⟨_, _, rfl, ?_, ?_⟩ | refine ⟨_, rfl, ?_⟩))) ?_ | refine Ya eok rfl rfl rfl rfl rfl rfl ?_ ?_ | refine Yw eok rfl rfl rfl rfl rfl ?_ ?_ | refine Yn [0, 1, 2, 3, 4, 6, 7, 8, 9] [] mixed eok (by kernel_rfl) True.intro rfl ?_ | (refine Ysplit rfl rfl (fun hc => ?_) (fun hc => ?_) <;> (fail_if_success (with_reducible first | exact tF hc | exact fT hc)) <;> (try simp only [HCl] at hc) <;> (try (exfalso; omega)))) | refine W_seq ?_ | refine W_region ?_ | refine W_any T.get ?_ | refine W_skip ?_ | refine W_ret ?_ | refine W_block ?_ | refine W_exit ?_ | refine W_cond_t rfl ?_ | refine W_cond_f rfl ?_ | (refine W_cond rfl (fun hc => ?_) (fun hc => ?_) <;> (try simp only [HCl] at hc) <;> (try (exfalso; omega))))
  refine ⟨_, _, rfl, rfl, ?_⟩; simp [Frz_tup, Frz_ag, Frzs_cons, Frzs_nil, Frz_d, Frz_e0, Frz_sl, sln, isSl, slOk]
end Go.Proofs.Ytflikcmbbljgeaa
