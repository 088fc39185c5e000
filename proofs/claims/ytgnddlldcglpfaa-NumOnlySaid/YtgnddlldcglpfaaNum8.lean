/- Written by a program (pre.py) from the source of the same name. -/
/- Numbers: what the document says of 0, of 300, of a list; the law on order. -/
import Derived.Test.YtgnddlldcglpfaaNum7
set_option linter.unusedSimpArgs false
set_option linter.unusedVariables false
set_option linter.unnecessarySimpa false
namespace Go.Proofs.Ytgnddlldcglpfaa
open Go.Gar
set_option maxRecDepth 4000

theorem put0 : putS 0 = ([0], 0) := by decide +kernel
theorem put300 : putS 300 = ([2, 1, 44], 0) := by decide +kernel
theorem list10 : listS [1, 0] = ([2, 1, 1, 0], 0) := by decide +kernel
theorem take1 : takeS [2, 1, 44, 9] = (300, [9], 0) := by decide +kernel
theorem take2 : takeS [1, 0] = (0, [], 12) := by decide +kernel
theorem take3 : takeS [1] = (0, [], 11) := by decide +kernel
theorem takeText1 : takeTextS [2, 97, 98, 7] = ([97, 98], [7], 0) := by decide +kernel
theorem text1 : textS [97, 98] = ([2, 97, 98], 0) := by decide +kernel
theorem takeList1 : takeListS [2, 1, 1, 0, 5] = ([1, 0], [5], 0) := by decide +kernel

set_option maxHeartbeats 4000000 in
theorem wakes_fn : Go.Gar.Fn Try.prog 36 [] (.b true) := by
  refine Fn_of_W eok Try.func36 rfl rfl (Nat.le_of_ble_eq_true rfl) ?_
  have c1 := put_fn 0
  have c2 := put_fn 300
  have c3 := list_fn [1, 0]
  have c4 := Take_fn [2, 1, 44, 9] (by decide)
  have c5 := Take_fn [1, 0] (by decide)
  have c6 := Take_fn [1] (by decide)
  have c7 := TakeText_fn [2, 97, 98, 7] (by decide)
  have c8 := text_fn [97, 98]
  have c9 := TakeList_fn [2, 1, 1, 0, 5] (by decide)
  rw [put0] at c1
  rw [put300] at c2
  rw [list10] at c3
  rw [take1] at c4
  rw [take2] at c5
  rw [take3] at c6
  rw [takeText1] at c7
  rw [text1] at c8
  rw [takeList1] at c9
  have nS := True.intro
  repeat' (first
   | ((with_reducible refine sg ?_); first
    | with_reducible rfl
    | with_reducible refine andT ?_ ?_
    | with_reducible exact Nat.beq_refl _
    | with_reducible exact fitsI_u8 _
    | ((with_reducible refine decide_eq_true ?_); first | omega | (simp only [SZl, nS]; omega))
    | decide
    | (simp [SZl, slc, allOneD, D.one, allOne, AV.one, nS]; done)
    | (simp [SZl, nS]; omega))
   | ((with_reducible refine gWl ?_); first
    | (refine Wl_isMv rfl ?_; refine Xmv eok rfl rfl rfl rfl ?_)
    | refine Xq eok rfl rfl rfl rfl ?_ ?_ (hx := by first | (simp only [NSl, NHl, Nat.reduceAdd, Int.reduceAdd, Int.reduceSub, Int.reduceMul, Int.reduceToNat, nS, takeD3, takeT3, takeL3, decide_true, Int.natCast_ofNat]; rfl) | rfl)
    | refine Xn [0, 1, 2, 3, 4, 5, 6, 7, 8, 9, 12, 15, 16, 17, 18, 19, 20, 21, 22, 23] rfl ?_
    | refine XF (c1) rfl rfl rfl rfl ?_ (hr := by first | (simp only [NSl, NHl, Nat.reduceAdd, Int.reduceAdd, Int.reduceSub, Int.reduceMul, Int.reduceToNat, nS, takeD3, takeT3, takeL3, decide_true, Int.natCast_ofNat]; rfl) | rfl)
    | refine XF (c2) rfl rfl rfl rfl ?_ (hr := by first | (simp only [NSl, NHl, Nat.reduceAdd, Int.reduceAdd, Int.reduceSub, Int.reduceMul, Int.reduceToNat, nS, takeD3, takeT3, takeL3, decide_true, Int.natCast_ofNat]; rfl) | rfl)
    | refine XF (c3) rfl rfl rfl rfl ?_ (hr := by first | (simp only [NSl, NHl, Nat.reduceAdd, Int.reduceAdd, Int.reduceSub, Int.reduceMul, Int.reduceToNat, nS, takeD3, takeT3, takeL3, decide_true, Int.natCast_ofNat]; rfl) | rfl)
    | refine XF (c4) rfl rfl rfl rfl ?_ (hr := by first | (simp only [NSl, NHl, Nat.reduceAdd, Int.reduceAdd, Int.reduceSub, Int.reduceMul, Int.reduceToNat, nS, takeD3, takeT3, takeL3, decide_true, Int.natCast_ofNat]; rfl) | rfl)
    | refine XF (c5) rfl rfl rfl rfl ?_ (hr := by first | (simp only [NSl, NHl, Nat.reduceAdd, Int.reduceAdd, Int.reduceSub, Int.reduceMul, Int.reduceToNat, nS, takeD3, takeT3, takeL3, decide_true, Int.natCast_ofNat]; rfl) | rfl)
    | refine XF (c6) rfl rfl rfl rfl ?_ (hr := by first | (simp only [NSl, NHl, Nat.reduceAdd, Int.reduceAdd, Int.reduceSub, Int.reduceMul, Int.reduceToNat, nS, takeD3, takeT3, takeL3, decide_true, Int.natCast_ofNat]; rfl) | rfl)
    | refine XF (c7) rfl rfl rfl rfl ?_ (hr := by first | (simp only [NSl, NHl, Nat.reduceAdd, Int.reduceAdd, Int.reduceSub, Int.reduceMul, Int.reduceToNat, nS, takeD3, takeT3, takeL3, decide_true, Int.natCast_ofNat]; rfl) | rfl)
    | refine XF (c8) rfl rfl rfl rfl ?_ (hr := by first | (simp only [NSl, NHl, Nat.reduceAdd, Int.reduceAdd, Int.reduceSub, Int.reduceMul, Int.reduceToNat, nS, takeD3, takeT3, takeL3, decide_true, Int.natCast_ofNat]; rfl) | rfl)
    | refine XF (c9) rfl rfl rfl rfl ?_ (hr := by first | (simp only [NSl, NHl, Nat.reduceAdd, Int.reduceAdd, Int.reduceSub, Int.reduceMul, Int.reduceToNat, nS, takeD3, takeT3, takeL3, decide_true, Int.natCast_ofNat]; rfl) | rfl)
    | refine XF (same_fn [0] [0]) rfl rfl rfl rfl ?_ (hr := by first | (simp only [NSl, NHl, Nat.reduceAdd, Int.reduceAdd, Int.reduceSub, Int.reduceMul, Int.reduceToNat, nS, takeD3, takeT3, takeL3, decide_true, Int.natCast_ofNat]; rfl) | rfl)
    | refine XF (same_fn [2, 1, 44] [2, 1, 44]) rfl rfl rfl rfl ?_ (hr := by first | (simp only [NSl, NHl, Nat.reduceAdd, Int.reduceAdd, Int.reduceSub, Int.reduceMul, Int.reduceToNat, nS, takeD3, takeT3, takeL3, decide_true, Int.natCast_ofNat]; rfl) | rfl)
    | refine XF (same_fn [2, 1, 1, 0] [2, 1, 1, 0]) rfl rfl rfl rfl ?_ (hr := by first | (simp only [NSl, NHl, Nat.reduceAdd, Int.reduceAdd, Int.reduceSub, Int.reduceMul, Int.reduceToNat, nS, takeD3, takeT3, takeL3, decide_true, Int.natCast_ofNat]; rfl) | rfl)
    | refine XF (same_fn [9] [9]) rfl rfl rfl rfl ?_ (hr := by first | (simp only [NSl, NHl, Nat.reduceAdd, Int.reduceAdd, Int.reduceSub, Int.reduceMul, Int.reduceToNat, nS, takeD3, takeT3, takeL3, decide_true, Int.natCast_ofNat]; rfl) | rfl)
    | refine XF (same_fn [7] [7]) rfl rfl rfl rfl ?_ (hr := by first | (simp only [NSl, NHl, Nat.reduceAdd, Int.reduceAdd, Int.reduceSub, Int.reduceMul, Int.reduceToNat, nS, takeD3, takeT3, takeL3, decide_true, Int.natCast_ofNat]; rfl) | rfl)
    | refine XF (same_fn [2, 97, 98] [2, 97, 98]) rfl rfl rfl rfl ?_ (hr := by first | (simp only [NSl, NHl, Nat.reduceAdd, Int.reduceAdd, Int.reduceSub, Int.reduceMul, Int.reduceToNat, nS, takeD3, takeT3, takeL3, decide_true, Int.natCast_ofNat]; rfl) | rfl)
    | refine XF (same_fn [5] [5]) rfl rfl rfl rfl ?_ (hr := by first | (simp only [NSl, NHl, Nat.reduceAdd, Int.reduceAdd, Int.reduceSub, Int.reduceMul, Int.reduceToNat, nS, takeD3, takeT3, takeL3, decide_true, Int.natCast_ofNat]; rfl) | rfl)
    | refine XF (ints_fn [1, 0] [1, 0] (by decide)) rfl rfl rfl rfl ?_ (hr := by first | (simp only [NSl, NHl, Nat.reduceAdd, Int.reduceAdd, Int.reduceSub, Int.reduceMul, Int.reduceToNat, nS, takeD3, takeT3, takeL3, decide_true, Int.natCast_ofNat]; rfl) | rfl)
    | refine Xs rfl rfl rfl ?_
    | (refine Xsplit rfl rfl (fun hc => ?_) (fun hc => ?_) <;> (try simp only [decide_eq_true_eq, decide_eq_false_iff_not, Bool.not_eq_true', Bool.not_eq_false', beq_iff_eq, beq_eq_false_iff_ne, bne_iff_ne, bne_eq_false_iff_eq, ne_eq, Int.not_lt, Int.not_le, ge_iff_le, gt_iff_lt] at hc) <;> (try (exfalso; omega))))
   | refine W_seq ?_
   | refine W_region ?_
   | refine W_skip ?_
   | refine W_ret ?_
   | refine W_block ?_
   | refine W_exit ?_
   | refine W_cond_t rfl ?_
   | refine W_cond_f rfl ?_
   | (refine W_cond rfl (fun hc => ?_) (fun hc => ?_) <;> (try simp only [decide_eq_true_eq, decide_eq_false_iff_not, Bool.not_eq_true', Bool.not_eq_false', beq_iff_eq, beq_eq_false_iff_ne, bne_iff_ne, bne_eq_false_iff_eq, ne_eq, Int.not_lt, Int.not_le, ge_iff_le, gt_iff_lt] at hc) <;> (try (exfalso; omega))))
  refine ⟨_, _, rfl, rfl, ?_⟩; simp [Frz_tup, Frz_ag, Frzs_cons, Frzs_nil, Frz_d, Frz_e0, Frz_sl, sln, isSl, slOk]
end Go.Proofs.Ytgnddlldcglpfaa
