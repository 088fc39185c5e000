/- Written by a program (pre.py) from the source of the same name. -/
/- Datagrams: the laws, for messages however great. -/
import Derived.Test.YtbpemnmpcljbpaaWire2D
set_option linter.unusedSimpArgs false
set_option linter.unusedVariables false
set_option linter.unnecessarySimpa false
namespace Go.Proofs.Ytbpemnmpcljbpaa
namespace Wi
open Go.Gar
set_option maxRecDepth 4000

theorem great_len {m : Msg} (h : greatM m = false) : m.list.length < 9223372036854775807 := by
  simp only [greatM, Bool.or_eq_false_iff, decide_eq_false_iff_not] at h; omega
theorem back_any (m : Msg) (at_ : Int) (hat : -9223372036854775808 ≤ at_ ∧ at_ ≤ 9223372036854775807) (by_ : Nat) (hby : by_ < 2 ^ 32) : Go.Gar.Fn Try.prog 3 [m.d, .i .i64 at_, .i .u32 by_] (.b true) := by
  cases h : greatM m with
  | false => exact back_fn m (great_len h) at_ hat by_ hby
  | true =>
    have hw := wakes7_fn
    have g1 := great_fn m
    rw [h] at g1
    unfold Msg.d Msg.cells at *
    refine Fn_of_W eok Try.func3 rfl rfl (Nat.le_of_ble_eq_true rfl) ?_
    have nS := True.intro
    repeat' (first | ((with_reducible refine sg ?_); first | with_reducible rfl | ((with_reducible refine fitG ?_); first | kernel_rfl | rfl | (simp [fitT, fitF, nS]; done)) | with_reducible refine andT ?_ ?_ | with_reducible exact Nat.beq_refl _ | with_reducible exact fitsI_u8 _ | ((with_reducible refine decide_eq_true ?_); first | omega | (simp only [SZl, nS]; omega)) | decide | (simp [SZl, slc, allOneD, D.one, allOne, AV.one, nS]; done) | (simp [SZl, nS]; omega)) | ((with_reducible refine gWl ?_); first | (refine Wl_isMv rfl ?_; refine Xmv eok rfl rfl rfl rfl ?_) | refine Xq eok rfl rfl rfl rfl ?_ ?_ | refine Xn [0, 1, 2, 3, 6, 7, 8, 9, 10, 11, 12, 13, 14, 15, 17, 19, 28, 78, 94, 102] rfl ?_ | refine XF (hw) rfl rfl rfl rfl ?_ | refine XF (g1) rfl rfl rfl rfl ?_ | refine Xa eok rfl rfl rfl rfl rfl ?_ ?_ | refine Xw eok rfl rfl rfl rfl ?_ ?_ | refine Xs rfl rfl rfl ?_ | (refine Xsplit rfl rfl (fun hc => ?_) (fun hc => ?_) <;> (fail_if_success (with_reducible first | exact tF hc | exact fT hc)) <;> (try simp only [HCl] at hc) <;> (try (exfalso; omega)))) | refine W_seq ?_ | refine W_region ?_ | refine W_skip ?_ | refine W_ret ?_ | refine W_block ?_ | refine W_exit ?_ | refine W_cond_t rfl ?_ | refine W_cond_f rfl ?_ | (refine W_cond rfl (fun hc => ?_) (fun hc => ?_) <;> (try simp only [HCl] at hc) <;> (try (exfalso; omega))))
    refine ⟨_, _, rfl, rfl, ?_⟩; simp [Frz_tup, Frz_ag, Frzs_cons, Frzs_nil, Frz_d, Frz_e0, Frz_sl, sln, isSl, slOk]
theorem apart_any (m o : Msg) : Go.Gar.Fn Try.prog 6 [m.d, o.d] (.b true) := by
  cases h : greatM m with
  | true =>
    have hw := wakes7_fn
    have g1 := great_fn m
    rw [h] at g1
    unfold Msg.d Msg.cells at *
    refine Fn_of_W eok Try.func6 rfl rfl (Nat.le_of_ble_eq_true rfl) ?_
    have nS := True.intro
    repeat' (first | ((with_reducible refine sg ?_); first | with_reducible rfl | ((with_reducible refine fitG ?_); first | kernel_rfl | rfl | (simp [fitT, fitF, nS]; done)) | with_reducible refine andT ?_ ?_ | with_reducible exact Nat.beq_refl _ | with_reducible exact fitsI_u8 _ | ((with_reducible refine decide_eq_true ?_); first | omega | (simp only [SZl, nS]; omega)) | decide | (simp [SZl, slc, allOneD, D.one, allOne, AV.one, nS]; done) | (simp [SZl, nS]; omega)) | ((with_reducible refine gWl ?_); first | (refine Wl_isMv rfl ?_; refine Xmv eok rfl rfl rfl rfl ?_) | refine Xq eok rfl rfl rfl rfl ?_ ?_ | refine Xn [0, 1, 2, 3, 4, 5, 6, 7, 8, 24] rfl ?_ | refine XF (hw) rfl rfl rfl rfl ?_ | refine XF (g1) rfl rfl rfl rfl ?_ | refine Xa eok rfl rfl rfl rfl rfl ?_ ?_ | refine Xs rfl rfl rfl ?_ | (refine Xsplit rfl rfl (fun hc => ?_) (fun hc => ?_) <;> (fail_if_success (with_reducible first | exact tF hc | exact fT hc)) <;> (try simp only [HCl] at hc) <;> (try (exfalso; omega)))) | ((with_reducible refine gWd ?_); first | (refine Wd_isMv rfl ?_; refine Ymv eok rfl rfl (fun _ => rfl) rfl rfl ?_) | refine Yp eok rfl rfl (fun _ => rfl) rfl rfl ?_ ?_ | refine Yq rfl rfl rfl rfl rfl ?_ ?_ | refine Ys rfl rfl rfl rfl ?_ | refine YF (hw) rfl rfl rfl rfl rfl ?_ | refine YF (g1) rfl rfl rfl rfl rfl ?_ | refine Ya eok rfl rfl rfl rfl rfl rfl ?_ ?_ | refine Yw eok rfl rfl rfl rfl rfl ?_ ?_ | refine Yn [0, 1, 2, 3, 4, 5, 6, 7, 8, 24] [] mixed eok (by kernel_rfl) True.intro rfl ?_ | (refine Ysplit rfl rfl (fun hc => ?_) (fun hc => ?_) <;> (fail_if_success (with_reducible first | exact tF hc | exact fT hc)) <;> (try simp only [HCl] at hc) <;> (try (exfalso; omega)))) | refine W_seq ?_ | refine W_region ?_ | refine W_any T.get ?_ | refine W_skip ?_ | refine W_ret ?_ | refine W_block ?_ | refine W_exit ?_ | refine W_cond_t rfl ?_ | refine W_cond_f rfl ?_ | (refine W_cond rfl (fun hc => ?_) (fun hc => ?_) <;> (try simp only [HCl] at hc) <;> (try (exfalso; omega))))
    refine ⟨_, _, rfl, rfl, ?_⟩; simp [Frz_tup, Frz_ag, Frzs_cons, Frzs_nil, Frz_d, Frz_e0, Frz_sl, sln, isSl, slOk]
  | false =>
  cases h2 : greatM o with
  | true =>
    have hw := wakes7_fn
    have g1 := great_fn m
    have g2 := great_fn o
    rw [h] at g1
    rw [h2] at g2
    unfold Msg.d Msg.cells at *
    refine Fn_of_W eok Try.func6 rfl rfl (Nat.le_of_ble_eq_true rfl) ?_
    have nS := True.intro
    repeat' (first | ((with_reducible refine sg ?_); first | with_reducible rfl | ((with_reducible refine fitG ?_); first | kernel_rfl | rfl | (simp [fitT, fitF, nS]; done)) | with_reducible refine andT ?_ ?_ | with_reducible exact Nat.beq_refl _ | with_reducible exact fitsI_u8 _ | ((with_reducible refine decide_eq_true ?_); first | omega | (simp only [SZl, nS]; omega)) | decide | (simp [SZl, slc, allOneD, D.one, allOne, AV.one, nS]; done) | (simp [SZl, nS]; omega)) | ((with_reducible refine gWl ?_); first | (refine Wl_isMv rfl ?_; refine Xmv eok rfl rfl rfl rfl ?_) | refine Xq eok rfl rfl rfl rfl ?_ ?_ | refine Xn [0, 1, 2, 3, 4, 5, 6, 7, 8, 24] rfl ?_ | refine XF (hw) rfl rfl rfl rfl ?_ | refine XF (g1) rfl rfl rfl rfl ?_ | refine XF (g2) rfl rfl rfl rfl ?_ | refine Xa eok rfl rfl rfl rfl rfl ?_ ?_ | refine Xs rfl rfl rfl ?_ | (refine Xsplit rfl rfl (fun hc => ?_) (fun hc => ?_) <;> (fail_if_success (with_reducible first | exact tF hc | exact fT hc)) <;> (try simp only [HCl] at hc) <;> (try (exfalso; omega)))) | ((with_reducible refine gWd ?_); first | (refine Wd_isMv rfl ?_; refine Ymv eok rfl rfl (fun _ => rfl) rfl rfl ?_) | refine Yp eok rfl rfl (fun _ => rfl) rfl rfl ?_ ?_ | refine Yq rfl rfl rfl rfl rfl ?_ ?_ | refine Ys rfl rfl rfl rfl ?_ | refine YF (hw) rfl rfl rfl rfl rfl ?_ | refine YF (g1) rfl rfl rfl rfl rfl ?_ | refine YF (g2) rfl rfl rfl rfl rfl ?_ | refine Ya eok rfl rfl rfl rfl rfl rfl ?_ ?_ | refine Yw eok rfl rfl rfl rfl rfl ?_ ?_ | refine Yn [0, 1, 2, 3, 4, 5, 6, 7, 8, 24] [] mixed eok (by kernel_rfl) True.intro rfl ?_ | (refine Ysplit rfl rfl (fun hc => ?_) (fun hc => ?_) <;> (fail_if_success (with_reducible first | exact tF hc | exact fT hc)) <;> (try simp only [HCl] at hc) <;> (try (exfalso; omega)))) | refine W_seq ?_ | refine W_region ?_ | refine W_any T.get ?_ | refine W_skip ?_ | refine W_ret ?_ | refine W_block ?_ | refine W_exit ?_ | refine W_cond_t rfl ?_ | refine W_cond_f rfl ?_ | (refine W_cond rfl (fun hc => ?_) (fun hc => ?_) <;> (try simp only [HCl] at hc) <;> (try (exfalso; omega))))
    refine ⟨_, _, rfl, rfl, ?_⟩; simp [Frz_tup, Frz_ag, Frzs_cons, Frzs_nil, Frz_d, Frz_e0, Frz_sl, sln, isSl, slOk]
  | false => exact apart_fn7 m o (great_len h) (great_len h2)
end Wi
end Go.Proofs.Ytbpemnmpcljbpaa
