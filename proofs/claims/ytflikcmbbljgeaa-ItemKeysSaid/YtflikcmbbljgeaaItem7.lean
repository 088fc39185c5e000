/- Written by a program (pre.py) from the source of the same name. -/
/- Pairs: what the document says of two pairs; the laws of order, of who takes away. -/
import Derived.Test.YtflikcmbbljgeaaItem6
set_option linter.unusedSimpArgs false
set_option linter.unusedVariables false
set_option linter.unnecessarySimpa false
namespace Go.Proofs.Ytflikcmbbljgeaa
open Go.Gar
set_option maxRecDepth 4000

def iA : Item := ⟨[107], 1, 2, false⟩
def iB : Item := ⟨[107], 9, 1, false⟩
def iX : Item := ⟨[120], 0, 0, false⟩
def iY : Item := ⟨[98], 0, 0, false⟩
theorem keys_w : keysT [iY, iA, iB, iY] = [[98], [107]] := by
  obtain ⟨h1, h2⟩ := keysB_spec ([iY, iA, iB, iY].map Item.key)
  refine lt_unique h1 (by decide) fun x => (h2 x).trans ?_
  simp only [iY, iA, iB, List.map_cons, List.map_nil, List.mem_cons, List.mem_nil_iff, or_false]
  grind
theorem w1 : Go.Gar.Fn Try.prog 15 [itemsD [zeroI, iB, iA]] (.tup [iA.d, .b true]) := by
  have h := Newest_fn [zeroI, iB, iA] (by decide)
  rw [show nwT [zeroI, iB, iA] = (iA, true) by decide +kernel] at h; exact h
theorem w2 : Go.Gar.Fn Try.prog 15 [itemsD [zeroI]] (.tup [zeroI.d, .b false]) := by
  have h := Newest_fn [zeroI] (by decide)
  rw [show nwT [zeroI] = (zeroI, false) by decide +kernel] at h; exact h
theorem w3 : Go.Gar.Fn Try.prog 26 [iA.d] (Item.d ⟨[107], 0, 3, true⟩) := by
  have h := Gone_fn iA (by decide)
  rw [show goneT iA = ⟨[107], 0, 3, true⟩ by decide +kernel] at h; exact h
theorem w4 : Go.Gar.Fn Try.prog 17 [itemsD [iY, iA, iB, iY]] (strsD [[98], [107]]) := by
  have h := Keys_fn [iY, iA, iB, iY] (by decide)
  rw [keys_w] at h; exact h
theorem w5 : Go.Gar.Fn Try.prog 20 [.s [107], itemsD [iA, iX, iB]] (itemsD [iA, iB]) := by
  have h := Of_fn [107] [iA, iX, iB] (by decide)
  rw [show ofK [107] [iA, iX, iB] = [iA, iB] by decide +kernel] at h; exact h
theorem w6 : Go.Gar.Fn Try.prog 22 [iA.d, iB.d] (.i .i64 1) := Cmp_fn iA iB
theorem w7 : Go.Gar.Fn Try.prog 22 [iB.d, iA.d] (.i .i64 (-1)) := Cmp_fn iB iA
theorem w8 : Go.Gar.Fn Try.prog 24 [iA.d, iB.d] (.b true) := Newer_fn iA iB
theorem w9 : Go.Gar.Fn Try.prog 24 [iA.d, iA.d] (.b false) := Newer_fn iA iA

set_option maxHeartbeats 4000000 in
theorem wakes_fn : Go.Gar.Fn Try.prog 14 [] (.b true) := by
  refine Fn_of_W eok Try.func14 rfl rfl (Nat.le_of_ble_eq_true rfl) ?_
  have nS := True.intro
  repeat' (first | ((with_reducible refine sg ?_); first | with_reducible rfl | ((with_reducible refine fitG ?_); first | kernel_rfl | rfl | (simp [fitT, fitF, nS]; done)) | with_reducible refine andT ?_ ?_ | with_reducible exact Nat.beq_refl _ | with_reducible exact fitsI_u8 _ | ((with_reducible refine decide_eq_true ?_); first | omega | (simp only [SZl, nS]; omega)) | decide | (simp [SZl, slc, allOneD, D.one, allOne, AV.one, nS]; done) | (simp [SZl, nS]; omega)) | ((with_reducible refine gWl ?_); first | (refine Wl_isMv rfl ?_; refine Xmv eok rfl rfl rfl rfl ?_) | refine Xq eok rfl rfl rfl rfl ?_ ?_ | refine Xn [0, 1, 2, 3, 4, 6, 7, 8, 9, 46] rfl ?_ | refine XF (w1) rfl rfl rfl rfl ?_ | refine XF (w2) rfl rfl rfl rfl ?_ | refine XF (w3) rfl rfl rfl rfl ?_ | refine XF (w4) rfl rfl rfl rfl ?_ | refine XF (w5) rfl rfl rfl rfl ?_ | refine XF (w6) rfl rfl rfl rfl ?_ | refine XF (w7) rfl rfl rfl rfl ?_ | refine XF (w8) rfl rfl rfl rfl ?_ | refine XF (w9) rfl rfl rfl rfl ?_ | refine Xa eok rfl rfl rfl rfl rfl ?_ ?_ | refine Xw eok rfl rfl rfl rfl ?_ ?_ | refine Xs rfl rfl rfl ?_ | (refine Xsplit rfl rfl (fun hc => ?_) (fun hc => ?_) <;> (fail_if_success (with_reducible first | exact tF hc | exact fT hc)) <;> (try simp only [HCl] at hc) <;> (try (exfalso; omega)))) | ((with_reducible refine gWd ?_); first | (refine Wd_isMv rfl ?_; refine Ymv eok rfl rfl (fun _ => rfl) rfl rfl ?_) | refine Yp eok rfl rfl (fun _ => rfl) rfl rfl ?_ ?_ | refine Yq rfl rfl rfl rfl rfl ?_ ?_ | refine Ys rfl rfl rfl rfl ?_ | refine YF (w1) rfl rfl rfl rfl rfl ?_ | refine YF (w2) rfl rfl rfl rfl rfl ?_ | refine YF (w3) rfl rfl rfl rfl rfl ?_ | refine YF (w4) rfl rfl rfl rfl rfl ?_ | refine YF (w5) rfl rfl rfl rfl rfl ?_ | refine YF (w6) rfl rfl rfl rfl rfl ?_ | refine YF (w7) rfl rfl rfl rfl rfl ?_ | refine YF (w8) rfl rfl rfl rfl rfl ?_ | refine YF (w9) rfl rfl rfl rfl rfl ?_ | refine Ya eok rfl rfl rfl rfl rfl rfl ?_ ?_ | refine Yw eok rfl rfl rfl rfl rfl ?_ ?_ | refine Yn [0, 1, 2, 3, 4, 6, 7, 8, 9, 46] [] mixed eok (by kernel_rfl) True.intro rfl ?_ | (refine Ysplit rfl rfl (fun hc => ?_) (fun hc => ?_) <;> (fail_if_success (with_reducible first | exact tF hc | exact fT hc)) <;> (try simp only [HCl] at hc) <;> (try (exfalso; omega)))) | refine W_seq ?_ | refine W_region ?_ | refine W_any T.get ?_ | refine W_skip ?_ | refine W_ret ?_ | refine W_block ?_ | refine W_exit ?_ | refine W_cond_t rfl ?_ | refine W_cond_f rfl ?_ | (refine W_cond rfl (fun hc => ?_) (fun hc => ?_) <;> (try simp only [HCl] at hc) <;> (try (exfalso; omega))))
  refine ⟨_, _, rfl, rfl, ?_⟩; simp [Frz_tup, Frz_ag, Frzs_cons, Frzs_nil, Frz_d, Frz_e0, Frz_sl, sln, isSl, slOk]
  rfl

/-! ### The order -/
theorem cmp_rev (x y : Item) : cmpT y x = -cmpT x y := by
  unfold cmpT
  rcases Int.lt_trichotomy x.version y.version with h | h | h
  · simp [h, show ¬ y.version < x.version by omega]
  · rw [h]
    rcases Int.lt_trichotomy x.value y.value with h2 | h2 | h2
    · simp [h2, show ¬ y.value < x.value by omega]
    · rw [h2]
      cases x.gone <;> cases y.gone <;> simp
    · simp [h2, show ¬ x.value < y.value by omega]
  · simp [h, show ¬ x.version < y.version by omega]
theorem cmp_cases (x y : Item) : (cmpT x y = 1 ∨ cmpT x y = 0 ∨ cmpT x y = -1) := by
  unfold cmpT
  repeat' split
  all_goals simp
/-- Newer. -/
def newer (x y : Item) : Prop := y.version < x.version ∨ (x.version = y.version ∧ (y.value < x.value ∨ (x.value = y.value ∧ x.gone = true ∧ y.gone = false)))
theorem newer_iff (x y : Item) : cmpT x y = 1 ↔ newer x y := by
  unfold cmpT newer
  rcases Int.lt_trichotomy x.version y.version with h | h | h <;> rcases Int.lt_trichotomy x.value y.value with h2 | h2 | h2 <;> cases hx : x.gone <;> cases hy : y.gone <;> grind
theorem newer_trans {x y z : Item} (h : newer x y) (k : newer y z) : newer x z := by
  unfold newer at *
  rcases h with h | ⟨h, h | ⟨h, h3, h4⟩⟩ <;> rcases k with k | ⟨k, k | ⟨k, k3, k4⟩⟩
  · left; omega
  · left; omega
  · left; omega
  · left; omega
  · right; exact ⟨by omega, by left; omega⟩
  · right; exact ⟨by omega, by left; omega⟩
  · left; omega
  · right; exact ⟨by omega, by left; omega⟩
  · rw [h4] at k3; cases k3
theorem cmp_zero (x y : Item) : cmpT x y = 0 ↔ x.version = y.version ∧ x.value = y.value ∧ x.gone = y.gone := by
  unfold cmpT
  rcases Int.lt_trichotomy x.version y.version with h | h | h <;> rcases Int.lt_trichotomy x.value y.value with h2 | h2 | h2 <;> cases hx : x.gone <;> cases hy : y.gone <;> grind
theorem gt_one {x y : Item} : cmpT x y > 0 ↔ cmpT x y = 1 := by
  rcases cmp_cases x y with h | h | h <;> omega
end Go.Proofs.Ytflikcmbbljgeaa
