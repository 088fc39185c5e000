/- Written by a program (pre.py) from the source of the same name. -/
/- Numbers: the laws that the answers are the document's, and that what is put is taken. -/
import Derived.Test.YtgnddlldcglpfaaNumA
import Derived.Test.YtgnddlldcglpfaaNumC
import Derived.Test.YtgnddlldcglpfaaFwD
set_option linter.unusedSimpArgs false
set_option linter.unusedVariables false
set_option linter.unnecessarySimpa false
namespace Go.Proofs.Ytgnddlldcglpfaa
open Go.Gar
set_option maxRecDepth 4000

set_option maxHeartbeats 4000000 in
theorem tells_fn (n : Int) (s : List UInt8) (l : List Int) (b : List UInt8) : Go.Gar.Fn Try.prog 8 [.i .i64 n, .s s, .is l, .by b] (.b true) := by
  refine Fn_of_W eok Try.func8 rfl rfl (Nat.le_of_ble_eq_true rfl) ?_
  by_cases hs : s.length > 300
  · have nS := True.intro
    repeat' (first
     | ((with_reducible refine sg ?_); first
      | with_reducible rfl
      | with_reducible refine andT ?_ ?_
      | with_reducible exact Nat.beq_refl _
      | with_reducible exact fitsI_u8 _
      | ((with_reducible refine decide_eq_true ?_); first | omega | (simp only [SZl, nS]; omega))
      | decide
      | (simp [SZl, slc, allOneD, D.one, allOne, AV.one, nS]; done)
      | (simp [SZl, nS]; omega))
     | ((with_reducible refine gWl ?_); first
      | (refine Wl_isMv rfl ?_; refine Xmv eok rfl rfl rfl rfl ?_)
      | refine Xq eok rfl rfl rfl rfl ?_ ?_
      | refine Xn [0, 1, 2, 3, 8, 9, 10, 11, 12, 13, 14, 15, 16, 17, 18, 19, 20, 21, 22, 23, 24, 25, 26, 39, 80, 127] rfl ?_
      | refine XF (wakes_fn) rfl rfl rfl rfl ?_
      | refine Xs rfl rfl rfl ?_
      | (refine Xsplit rfl rfl (fun hc => ?_) (fun hc => ?_) <;> (try simp only [decide_eq_true_eq, decide_eq_false_iff_not, Bool.not_eq_true', Bool.not_eq_false', beq_iff_eq, beq_eq_false_iff_ne, bne_iff_ne, bne_eq_false_iff_eq, ne_eq, Int.not_lt, Int.not_le, ge_iff_le, gt_iff_lt] at hc) <;> (try (exfalso; omega))))
     | refine W_seq ?_
     | refine W_region ?_
     | refine W_skip ?_
     | refine W_ret ?_
     | refine W_block ?_
     | refine W_exit ?_
     | refine W_cond_t rfl ?_
     | refine W_cond_f rfl ?_
     | (refine W_cond rfl (fun hc => ?_) (fun hc => ?_) <;> (try simp only [decide_eq_true_eq, decide_eq_false_iff_not, Bool.not_eq_true', Bool.not_eq_false', beq_iff_eq, beq_eq_false_iff_ne, bne_iff_ne, bne_eq_false_iff_eq, ne_eq, Int.not_lt, Int.not_le, ge_iff_le, gt_iff_lt] at hc) <;> (try (exfalso; omega))))
    refine ⟨_, _, rfl, rfl, ?_⟩; simp [Frz_tup, Frz_ag, Frzs_cons, Frzs_nil, Frz_d, Frz_e0, Frz_sl, sln, isSl, slOk]
  by_cases hl : l.length > 300
  · have nS := True.intro
    repeat' (first
     | ((with_reducible refine sg ?_); first
      | with_reducible rfl
      | with_reducible refine andT ?_ ?_
      | with_reducible exact Nat.beq_refl _
      | with_reducible exact fitsI_u8 _
      | ((with_reducible refine decide_eq_true ?_); first | omega | (simp only [SZl, nS]; omega))
      | decide
      | (simp [SZl, slc, allOneD, D.one, allOne, AV.one, nS]; done)
      | (simp [SZl, nS]; omega))
     | ((with_reducible refine gWl ?_); first
      | (refine Wl_isMv rfl ?_; refine Xmv eok rfl rfl rfl rfl ?_)
      | refine Xq eok rfl rfl rfl rfl ?_ ?_
      | refine Xn [0, 1, 2, 3, 8, 9, 10, 11, 12, 13, 14, 15, 16, 17, 18, 19, 20, 21, 22, 23, 24, 25, 26, 39, 80, 127] rfl ?_
      | refine XF (wakes_fn) rfl rfl rfl rfl ?_
      | refine Xs rfl rfl rfl ?_
      | (refine Xsplit rfl rfl (fun hc => ?_) (fun hc => ?_) <;> (try simp only [decide_eq_true_eq, decide_eq_false_iff_not, Bool.not_eq_true', Bool.not_eq_false', beq_iff_eq, beq_eq_false_iff_ne, bne_iff_ne, bne_eq_false_iff_eq, ne_eq, Int.not_lt, Int.not_le, ge_iff_le, gt_iff_lt] at hc) <;> (try (exfalso; omega))))
     | refine W_seq ?_
     | refine W_region ?_
     | refine W_skip ?_
     | refine W_ret ?_
     | refine W_block ?_
     | refine W_exit ?_
     | refine W_cond_t rfl ?_
     | refine W_cond_f rfl ?_
     | (refine W_cond rfl (fun hc => ?_) (fun hc => ?_) <;> (try simp only [decide_eq_true_eq, decide_eq_false_iff_not, Bool.not_eq_true', Bool.not_eq_false', beq_iff_eq, beq_eq_false_iff_ne, bne_iff_ne, bne_eq_false_iff_eq, ne_eq, Int.not_lt, Int.not_le, ge_iff_le, gt_iff_lt] at hc) <;> (try (exfalso; omega))))
    refine ⟨_, _, rfl, rfl, ?_⟩; simp [Frz_tup, Frz_ag, Frzs_cons, Frzs_nil, Frz_d, Frz_e0, Frz_sl, sln, isSl, slOk]
  by_cases hb : b.length > 600
  · have nS := True.intro
    repeat' (first
     | ((with_reducible refine sg ?_); first
      | with_reducible rfl
      | with_reducible refine andT ?_ ?_
      | with_reducible exact Nat.beq_refl _
      | with_reducible exact fitsI_u8 _
      | ((with_reducible refine decide_eq_true ?_); first | omega | (simp only [SZl, nS]; omega))
      | decide
      | (simp [SZl, slc, allOneD, D.one, allOne, AV.one, nS]; done)
      | (simp [SZl, nS]; omega))
     | ((with_reducible refine gWl ?_); first
      | (refine Wl_isMv rfl ?_; refine Xmv eok rfl rfl rfl rfl ?_)
      | refine Xq eok rfl rfl rfl rfl ?_ ?_
      | refine Xn [0, 1, 2, 3, 8, 9, 10, 11, 12, 13, 14, 15, 16, 17, 18, 19, 20, 21, 22, 23, 24, 25, 26, 39, 80, 127] rfl ?_
      | refine XF (wakes_fn) rfl rfl rfl rfl ?_
      | refine Xs rfl rfl rfl ?_
      | (refine Xsplit rfl rfl (fun hc => ?_) (fun hc => ?_) <;> (try simp only [decide_eq_true_eq, decide_eq_false_iff_not, Bool.not_eq_true', Bool.not_eq_false', beq_iff_eq, beq_eq_false_iff_ne, bne_iff_ne, bne_eq_false_iff_eq, ne_eq, Int.not_lt, Int.not_le, ge_iff_le, gt_iff_lt] at hc) <;> (try (exfalso; omega))))
     | refine W_seq ?_
     | refine W_region ?_
     | refine W_skip ?_
     | refine W_ret ?_
     | refine W_block ?_
     | refine W_exit ?_
     | refine W_cond_t rfl ?_
     | refine W_cond_f rfl ?_
     | (refine W_cond rfl (fun hc => ?_) (fun hc => ?_) <;> (try simp only [decide_eq_true_eq, decide_eq_false_iff_not, Bool.not_eq_true', Bool.not_eq_false', beq_iff_eq, beq_eq_false_iff_ne, bne_iff_ne, bne_eq_false_iff_eq, ne_eq, Int.not_lt, Int.not_le, ge_iff_le, gt_iff_lt] at hc) <;> (try (exfalso; omega))))
    refine ⟨_, _, rfl, rfl, ?_⟩; simp [Frz_tup, Frz_ag, Frzs_cons, Frzs_nil, Frz_d, Frz_e0, Frz_sl, sln, isSl, slOk]
  have hi := takeListS_len b
  have nS := True.intro
  repeat' (first
   | ((with_reducible refine sg ?_); first
    | with_reducible rfl
    | with_reducible refine andT ?_ ?_
    | with_reducible exact Nat.beq_refl _
    | with_reducible exact fitsI_u8 _
    | ((with_reducible refine decide_eq_true ?_); first | omega | (simp only [SZl, nS]; omega))
    | decide
    | (simp [SZl, slc, allOneD, D.one, allOne, AV.one, nS]; done)
    | (simp [SZl, nS]; omega))
   | ((with_reducible refine gWl ?_); first
    | (refine Wl_isMv rfl ?_; refine Xmv eok rfl rfl rfl rfl ?_)
    | refine Xq eok rfl rfl rfl rfl ?_ ?_ (hx := by first | (simp only [NSl, NHl, Nat.reduceAdd, Int.reduceAdd, Int.reduceSub, Int.reduceMul, Int.reduceToNat, nS, takeD3, takeT3, takeL3]; rfl) | rfl)
    | refine Xn [0, 1, 2, 3, 8, 9, 10, 11, 12, 13, 14, 15, 16, 17, 18, 19, 20, 21, 22, 23, 24, 25, 26, 39, 80, 127] rfl ?_
    | refine XF (put_fn n) rfl rfl rfl rfl ?_ (hr := by first | (simp only [NSl, NHl, Nat.reduceAdd, Int.reduceAdd, Int.reduceSub, Int.reduceMul, Int.reduceToNat, nS, takeD3, takeT3, takeL3]; rfl) | rfl)
    | refine XF (rput_fn n) rfl rfl rfl rfl ?_ (hr := by first | (simp only [NSl, NHl, Nat.reduceAdd, Int.reduceAdd, Int.reduceSub, Int.reduceMul, Int.reduceToNat, nS, takeD3, takeT3, takeL3]; rfl) | rfl)
    | refine XF (text_fn s) rfl rfl rfl rfl ?_ (hr := by first | (simp only [NSl, NHl, Nat.reduceAdd, Int.reduceAdd, Int.reduceSub, Int.reduceMul, Int.reduceToNat, nS, takeD3, takeT3, takeL3]; rfl) | rfl)
    | refine XF (rtext_fn s) rfl rfl rfl rfl ?_ (hr := by first | (simp only [NSl, NHl, Nat.reduceAdd, Int.reduceAdd, Int.reduceSub, Int.reduceMul, Int.reduceToNat, nS, takeD3, takeT3, takeL3]; rfl) | rfl)
    | refine XF (same_fn _ _) rfl rfl rfl rfl ?_ (hr := by first | (simp only [NSl, NHl, Nat.reduceAdd, Int.reduceAdd, Int.reduceSub, Int.reduceMul, Int.reduceToNat, nS, takeD3, takeT3, takeL3]; rfl) | rfl)
    | refine XF (list_fn l) rfl rfl rfl rfl ?_ (hr := by first | (simp only [NSl, NHl, Nat.reduceAdd, Int.reduceAdd, Int.reduceSub, Int.reduceMul, Int.reduceToNat, nS, takeD3, takeT3, takeL3]; rfl) | rfl)
    | refine XF (rlist_fn l) rfl rfl rfl rfl ?_ (hr := by first | (simp only [NSl, NHl, Nat.reduceAdd, Int.reduceAdd, Int.reduceSub, Int.reduceMul, Int.reduceToNat, nS, takeD3, takeT3, takeL3]; rfl) | rfl)
    | refine XF (Take_fn b (by omega)) rfl rfl rfl rfl ?_ (hr := by first | (simp only [NSl, NHl, Nat.reduceAdd, Int.reduceAdd, Int.reduceSub, Int.reduceMul, Int.reduceToNat, nS, takeD3, takeT3, takeL3]; rfl) | rfl)
    | refine XF (rtake_fn b (by omega)) rfl rfl rfl rfl ?_ (hr := by first | (simp only [NSl, NHl, Nat.reduceAdd, Int.reduceAdd, Int.reduceSub, Int.reduceMul, Int.reduceToNat, nS, takeD3, takeT3, takeL3]; rfl) | rfl)
    | refine XF (TakeText_fn b (by omega)) rfl rfl rfl rfl ?_ (hr := by first | (simp only [NSl, NHl, Nat.reduceAdd, Int.reduceAdd, Int.reduceSub, Int.reduceMul, Int.reduceToNat, nS, takeD3, takeT3, takeL3]; rfl) | rfl)
    | refine XF (rTakeText_fn b (by omega)) rfl rfl rfl rfl ?_ (hr := by first | (simp only [NSl, NHl, Nat.reduceAdd, Int.reduceAdd, Int.reduceSub, Int.reduceMul, Int.reduceToNat, nS, takeD3, takeT3, takeL3]; rfl) | rfl)
    | refine XF (TakeList_fn b (by omega)) rfl rfl rfl rfl ?_ (hr := by first | (simp only [NSl, NHl, Nat.reduceAdd, Int.reduceAdd, Int.reduceSub, Int.reduceMul, Int.reduceToNat, nS, takeD3, takeT3, takeL3]; rfl) | rfl)
    | refine XF (rTakeList_fn b (by omega)) rfl rfl rfl rfl ?_ (hr := by first | (simp only [NSl, NHl, Nat.reduceAdd, Int.reduceAdd, Int.reduceSub, Int.reduceMul, Int.reduceToNat, nS, takeD3, takeT3, takeL3]; rfl) | rfl)
    | refine XF (ints_fn _ _ (Nat.lt_of_le_of_lt hi (by decide))) rfl rfl rfl rfl ?_ (hr := by first | (simp only [NSl, NHl, Nat.reduceAdd, Int.reduceAdd, Int.reduceSub, Int.reduceMul, Int.reduceToNat, nS, takeD3, takeT3, takeL3]; rfl) | rfl)
    | refine XF (wakes_fn) rfl rfl rfl rfl ?_ (hr := by first | (simp only [NSl, NHl, Nat.reduceAdd, Int.reduceAdd, Int.reduceSub, Int.reduceMul, Int.reduceToNat, nS, takeD3, takeT3, takeL3]; rfl) | rfl)
    | refine Xs rfl rfl rfl ?_
    | (refine Xsplit rfl rfl (fun hc => ?_) (fun hc => ?_) <;> (try simp only [decide_eq_true_eq, decide_eq_false_iff_not, Bool.not_eq_true', Bool.not_eq_false', beq_iff_eq, beq_eq_false_iff_ne, bne_iff_ne, bne_eq_false_iff_eq, ne_eq, Int.not_lt, Int.not_le, ge_iff_le, gt_iff_lt] at hc) <;> (try (exfalso; omega))))
   | refine W_seq ?_
   | refine W_region ?_
   | refine W_skip ?_
   | refine W_ret ?_
   | refine W_block ?_
   | refine W_exit ?_
   | refine W_cond_t rfl ?_
   | refine W_cond_f rfl ?_
   | (refine W_cond rfl (fun hc => ?_) (fun hc => ?_) <;> (try simp only [decide_eq_true_eq, decide_eq_false_iff_not, Bool.not_eq_true', Bool.not_eq_false', beq_iff_eq, beq_eq_false_iff_ne, bne_iff_ne, bne_eq_false_iff_eq, ne_eq, Int.not_lt, Int.not_le, ge_iff_le, gt_iff_lt] at hc) <;> (try (exfalso; omega))))
  refine ⟨_, _, rfl, rfl, ?_⟩; simp [Frz_tup, Frz_ag, Frzs_cons, Frzs_nil, Frz_d, Frz_e0, Frz_sl, sln, isSl, slOk]

set_option maxHeartbeats 4000000 in
theorem back_fn (n m : Int) (r : List UInt8) : Go.Gar.Fn Try.prog 9 [.i .i64 n, .i .i64 m, .by r] (.b true) := by
  refine Fn_of_W eok Try.func9 rfl rfl (Nat.le_of_ble_eq_true rfl) ?_
  by_cases hr : r.length > 60
  · have nS := True.intro
    repeat' (first
     | ((with_reducible refine sg ?_); first
      | with_reducible rfl
      | with_reducible refine andT ?_ ?_
      | with_reducible exact Nat.beq_refl _
      | with_reducible exact fitsI_u8 _
      | ((with_reducible refine decide_eq_true ?_); first | omega | (simp only [SZl, nS]; omega))
      | decide
      | (simp [SZl, slc, allOneD, D.one, allOne, AV.one, nS]; done)
      | (simp [SZl, nS]; omega))
     | ((with_reducible refine gWl ?_); first
      | (refine Wl_isMv rfl ?_; refine Xmv eok rfl rfl rfl rfl ?_)
      | refine Xq eok rfl rfl rfl rfl ?_ ?_
      | refine Xn [0, 1, 2, 6, 7, 8, 9, 10, 11, 12, 13, 16, 19, 36, 91] rfl ?_
      | refine XF (wakes_fn) rfl rfl rfl rfl ?_
      | refine Xw eok rfl rfl rfl rfl ?_ ?_
      | refine Xs rfl rfl rfl ?_
      | (refine Xsplit rfl rfl (fun hc => ?_) (fun hc => ?_) <;> (try simp only [decide_eq_true_eq, decide_eq_false_iff_not, Bool.not_eq_true', Bool.not_eq_false', beq_iff_eq, beq_eq_false_iff_ne, bne_iff_ne, bne_eq_false_iff_eq, ne_eq, Int.not_lt, Int.not_le, ge_iff_le, gt_iff_lt] at hc) <;> (try (exfalso; omega))))
     | refine W_seq ?_
     | refine W_region ?_
     | refine W_skip ?_
     | refine W_ret ?_
     | refine W_block ?_
     | refine W_exit ?_
     | refine W_cond_t rfl ?_
     | refine W_cond_f rfl ?_
     | (refine W_cond rfl (fun hc => ?_) (fun hc => ?_) <;> (try simp only [decide_eq_true_eq, decide_eq_false_iff_not, Bool.not_eq_true', Bool.not_eq_false', beq_iff_eq, beq_eq_false_iff_ne, bne_iff_ne, bne_eq_false_iff_eq, ne_eq, Int.not_lt, Int.not_le, ge_iff_le, gt_iff_lt] at hc) <;> (try (exfalso; omega))))
    refine ⟨_, _, rfl, rfl, ?_⟩; simp [Frz_tup, Frz_ag, Frzs_cons, Frzs_nil, Frz_d, Frz_e0, Frz_sl, sln, isSl, slOk]
  by_cases hn : fits n = true
  · obtain ⟨n', rfl, hn'⟩ := fits_nat hn
    have e1 := putS_nat hn'
    have e2 := take_numB n' r hn'
    have e3 := take_short n' hn'
    have hl := numB_len n' hn'
    have hp := numB_pos n'
    have e4 : (((numB n').length : Int) - 1).toNat = (numB n').length - 1 := by omega
    by_cases hm : fits m = true
    · obtain ⟨m', rfl, hm'⟩ := fits_nat hm
      have e5 := putS_nat hm'
      have e6 : ((numB n' == numB m') == ((n' : Int) == (m' : Int))) = true := by
        rw [beq_iff_eq, Bool.eq_iff_iff, beq_iff_eq, beq_iff_eq]
        constructor
        · intro h; rw [numB_inj hn' hm' h]
        · intro h; rw [Int.ofNat_inj.1 h]
      have nS := And.intro e1 (And.intro e2 (And.intro e3 (And.intro e4 (And.intro e5 e6))))
      repeat' (first
       | ((with_reducible refine sg ?_); first
        | with_reducible rfl
        | with_reducible refine andT ?_ ?_
        | with_reducible exact Nat.beq_refl _
        | with_reducible exact fitsI_u8 _
        | ((with_reducible refine decide_eq_true ?_); first | omega | (simp only [SZl, nS]; omega))
        | decide
        | (simp [SZl, slc, allOneD, D.one, allOne, AV.one, nS]; done)
        | (simp [SZl, nS]; omega))
       | ((with_reducible refine gWl ?_); first
        | (refine Wl_isMv rfl ?_; refine Xmv eok rfl rfl rfl rfl ?_)
        | refine XaoL [50] eok rfl rfl rfl rfl rfl rfl ?_ ?_ (hx := by first | (simp only [NSl, NHl, Nat.reduceAdd, Int.reduceAdd, Int.reduceSub, Int.reduceMul, Int.reduceToNat, nS, takeD3]; rfl) | rfl)
        | refine Xq eok rfl rfl rfl rfl ?_ ?_ (hx := by first | (simp only [NSl, NHl, Nat.reduceAdd, Int.reduceAdd, Int.reduceSub, Int.reduceMul, Int.reduceToNat, nS, takeD3]; rfl) | rfl)
        | refine Xn [0, 1, 2, 6, 7, 8, 9, 10, 11, 12, 13, 16, 19, 36, 91] rfl ?_
        | refine Xfz 52 rfl rfl rfl (by first | rfl | simp [sln]) ?_
        | refine XF (put_fn n') rfl rfl rfl rfl ?_ (hr := by first | (simp only [NSl, NHl, Nat.reduceAdd, Int.reduceAdd, Int.reduceSub, Int.reduceMul, Int.reduceToNat, nS, takeD3]; rfl) | rfl)
        | refine XF (put_fn m') rfl rfl rfl rfl ?_ (hr := by first | (simp only [NSl, NHl, Nat.reduceAdd, Int.reduceAdd, Int.reduceSub, Int.reduceMul, Int.reduceToNat, nS, takeD3]; rfl) | rfl)
        | refine XF (Take_fn (numB n' ++ r) (by simp; omega)) rfl rfl rfl rfl ?_ (hr := by first | (simp only [NSl, NHl, Nat.reduceAdd, Int.reduceAdd, Int.reduceSub, Int.reduceMul, Int.reduceToNat, nS, takeD3]; rfl) | rfl)
        | refine XF (Take_fn ((numB n').take ((numB n').length - 1)) (by simp; omega)) rfl rfl rfl rfl ?_ (hr := by first | (simp only [NSl, NHl, Nat.reduceAdd, Int.reduceAdd, Int.reduceSub, Int.reduceMul, Int.reduceToNat, nS, takeD3]; rfl) | rfl)
        | refine XF (same_fn _ _) rfl rfl rfl rfl ?_ (hr := by first | (simp only [NSl, NHl, Nat.reduceAdd, Int.reduceAdd, Int.reduceSub, Int.reduceMul, Int.reduceToNat, nS, takeD3]; rfl) | rfl)
        | refine XF (wakes_fn) rfl rfl rfl rfl ?_ (hr := by first | (simp only [NSl, NHl, Nat.reduceAdd, Int.reduceAdd, Int.reduceSub, Int.reduceMul, Int.reduceToNat, nS, takeD3]; rfl) | rfl)
        | refine Xw eok rfl rfl rfl rfl ?_ ?_ (hx := by first | (simp only [NSl, NHl, Nat.reduceAdd, Int.reduceAdd, Int.reduceSub, Int.reduceMul, Int.reduceToNat, nS, takeD3]; rfl) | rfl)
        | refine Xs rfl rfl rfl ?_
        | (refine Xsplit rfl rfl (fun hc => ?_) (fun hc => ?_) <;> (try simp only [decide_eq_true_eq, decide_eq_false_iff_not, Bool.not_eq_true', Bool.not_eq_false', beq_iff_eq, beq_eq_false_iff_ne, bne_iff_ne, bne_eq_false_iff_eq, ne_eq, Int.not_lt, Int.not_le, ge_iff_le, gt_iff_lt] at hc) <;> (try (exfalso; omega))))
       | refine W_seq ?_
       | refine W_region ?_
       | refine W_skip ?_
       | refine W_ret ?_
       | refine W_block ?_
       | refine W_exit ?_
       | refine W_cond_t rfl ?_
       | refine W_cond_f rfl ?_
       | (refine W_cond rfl (fun hc => ?_) (fun hc => ?_) <;> (try simp only [decide_eq_true_eq, decide_eq_false_iff_not, Bool.not_eq_true', Bool.not_eq_false', beq_iff_eq, beq_eq_false_iff_ne, bne_iff_ne, bne_eq_false_iff_eq, ne_eq, Int.not_lt, Int.not_le, ge_iff_le, gt_iff_lt] at hc) <;> (try (exfalso; omega))))
      refine ⟨_, _, rfl, rfl, ?_⟩; simp [Frz_tup, Frz_ag, Frzs_cons, Frzs_nil, Frz_d, Frz_e0, Frz_sl, sln, isSl, slOk]
    · have hm0 : fits m = false := by simpa using hm
      have e5 : putS m = ([], 2) := by unfold putS; rw [if_neg hm]
      have nS := And.intro e1 (And.intro e2 (And.intro e3 (And.intro e4 e5)))
      repeat' (first
       | ((with_reducible refine sg ?_); first
        | with_reducible rfl
        | with_reducible refine andT ?_ ?_
        | with_reducible exact Nat.beq_refl _
        | with_reducible exact fitsI_u8 _
        | ((with_reducible refine decide_eq_true ?_); first | omega | (simp only [SZl, nS]; omega))
        | decide
        | (simp [SZl, slc, allOneD, D.one, allOne, AV.one, nS]; done)
        | (simp [SZl, nS]; omega))
       | ((with_reducible refine gWl ?_); first
        | (refine Wl_isMv rfl ?_; refine Xmv eok rfl rfl rfl rfl ?_)
        | refine XaoL [50] eok rfl rfl rfl rfl rfl rfl ?_ ?_ (hx := by first | (simp only [NSl, NHl, Nat.reduceAdd, Int.reduceAdd, Int.reduceSub, Int.reduceMul, Int.reduceToNat, nS, takeD3]; rfl) | rfl)
        | refine Xq eok rfl rfl rfl rfl ?_ ?_ (hx := by first | (simp only [NSl, NHl, Nat.reduceAdd, Int.reduceAdd, Int.reduceSub, Int.reduceMul, Int.reduceToNat, nS, takeD3]; rfl) | rfl)
        | refine Xn [0, 1, 2, 6, 7, 8, 9, 10, 11, 12, 13, 16, 19, 36, 91] rfl ?_
        | refine Xfz 52 rfl rfl rfl (by first | rfl | simp [sln]) ?_
        | refine XF (put_fn n') rfl rfl rfl rfl ?_ (hr := by first | (simp only [NSl, NHl, Nat.reduceAdd, Int.reduceAdd, Int.reduceSub, Int.reduceMul, Int.reduceToNat, nS, takeD3]; rfl) | rfl)
        | refine XF (put_fn m) rfl rfl rfl rfl ?_ (hr := by first | (simp only [NSl, NHl, Nat.reduceAdd, Int.reduceAdd, Int.reduceSub, Int.reduceMul, Int.reduceToNat, nS, takeD3]; rfl) | rfl)
        | refine XF (Take_fn (numB n' ++ r) (by simp; omega)) rfl rfl rfl rfl ?_ (hr := by first | (simp only [NSl, NHl, Nat.reduceAdd, Int.reduceAdd, Int.reduceSub, Int.reduceMul, Int.reduceToNat, nS, takeD3]; rfl) | rfl)
        | refine XF (Take_fn ((numB n').take ((numB n').length - 1)) (by simp; omega)) rfl rfl rfl rfl ?_ (hr := by first | (simp only [NSl, NHl, Nat.reduceAdd, Int.reduceAdd, Int.reduceSub, Int.reduceMul, Int.reduceToNat, nS, takeD3]; rfl) | rfl)
        | refine XF (same_fn _ _) rfl rfl rfl rfl ?_ (hr := by first | (simp only [NSl, NHl, Nat.reduceAdd, Int.reduceAdd, Int.reduceSub, Int.reduceMul, Int.reduceToNat, nS, takeD3]; rfl) | rfl)
        | refine XF (wakes_fn) rfl rfl rfl rfl ?_ (hr := by first | (simp only [NSl, NHl, Nat.reduceAdd, Int.reduceAdd, Int.reduceSub, Int.reduceMul, Int.reduceToNat, nS, takeD3]; rfl) | rfl)
        | refine Xw eok rfl rfl rfl rfl ?_ ?_ (hx := by first | (simp only [NSl, NHl, Nat.reduceAdd, Int.reduceAdd, Int.reduceSub, Int.reduceMul, Int.reduceToNat, nS, takeD3]; rfl) | rfl)
        | refine Xs rfl rfl rfl ?_
        | (refine Xsplit rfl rfl (fun hc => ?_) (fun hc => ?_) <;> (try simp only [decide_eq_true_eq, decide_eq_false_iff_not, Bool.not_eq_true', Bool.not_eq_false', beq_iff_eq, beq_eq_false_iff_ne, bne_iff_ne, bne_eq_false_iff_eq, ne_eq, Int.not_lt, Int.not_le, ge_iff_le, gt_iff_lt] at hc) <;> (try (exfalso; omega))))
       | refine W_seq ?_
       | refine W_region ?_
       | refine W_skip ?_
       | refine W_ret ?_
       | refine W_block ?_
       | refine W_exit ?_
       | refine W_cond_t rfl ?_
       | refine W_cond_f rfl ?_
       | (refine W_cond rfl (fun hc => ?_) (fun hc => ?_) <;> (try simp only [decide_eq_true_eq, decide_eq_false_iff_not, Bool.not_eq_true', Bool.not_eq_false', beq_iff_eq, beq_eq_false_iff_ne, bne_iff_ne, bne_eq_false_iff_eq, ne_eq, Int.not_lt, Int.not_le, ge_iff_le, gt_iff_lt] at hc) <;> (try (exfalso; omega))))
      refine ⟨_, _, rfl, rfl, ?_⟩; simp [Frz_tup, Frz_ag, Frzs_cons, Frzs_nil, Frz_d, Frz_e0, Frz_sl, sln, isSl, slOk]
  · have hn0 : fits n = false := by simpa using hn
    have hc' : n < 0 ∨ n > 1099511627776 := by simp [fits] at hn0; omega
    have e1 : putS n = ([], 2) := by unfold putS; rw [if_neg hn]
    have nS := e1
    repeat' (first
     | ((with_reducible refine sg ?_); first
      | with_reducible rfl
      | with_reducible refine andT ?_ ?_
      | with_reducible exact Nat.beq_refl _
      | with_reducible exact fitsI_u8 _
      | ((with_reducible refine decide_eq_true ?_); first | omega | (simp only [SZl, nS]; omega))
      | decide
      | (simp [SZl, slc, allOneD, D.one, allOne, AV.one, nS]; done)
      | (simp [SZl, nS]; omega))
     | ((with_reducible refine gWl ?_); first
      | (refine Wl_isMv rfl ?_; refine Xmv eok rfl rfl rfl rfl ?_)
      | refine Xq eok rfl rfl rfl rfl ?_ ?_
      | refine Xn [0, 1, 2, 6, 7, 8, 9, 10, 11, 12, 13, 16, 19, 36, 91] rfl ?_
      | refine XF (put_fn n) rfl rfl rfl rfl ?_
      | refine XF (put_fn m) rfl rfl rfl rfl ?_
      | refine XF (wakes_fn) rfl rfl rfl rfl ?_
      | refine Xw eok rfl rfl rfl rfl ?_ ?_
      | refine Xs rfl rfl rfl ?_
      | (refine Xsplit rfl rfl (fun hc => ?_) (fun hc => ?_) <;> (try simp only [decide_eq_true_eq, decide_eq_false_iff_not, Bool.not_eq_true', Bool.not_eq_false', beq_iff_eq, beq_eq_false_iff_ne, bne_iff_ne, bne_eq_false_iff_eq, ne_eq, Int.not_lt, Int.not_le, ge_iff_le, gt_iff_lt] at hc) <;> (try (exfalso; omega))))
     | refine W_seq ?_
     | refine W_region ?_
     | refine W_skip ?_
     | refine W_ret ?_
     | refine W_block ?_
     | refine W_exit ?_
     | refine W_cond_t rfl ?_
     | refine W_cond_f rfl ?_
     | (refine W_cond rfl (fun hc => ?_) (fun hc => ?_) <;> (try simp only [decide_eq_true_eq, decide_eq_false_iff_not, Bool.not_eq_true', Bool.not_eq_false', beq_iff_eq, beq_eq_false_iff_ne, bne_iff_ne, bne_eq_false_iff_eq, ne_eq, Int.not_lt, Int.not_le, ge_iff_le, gt_iff_lt] at hc) <;> (try (exfalso; omega))))
    all_goals first
      | (refine ⟨_, _, rfl, rfl, ?_⟩; simp [Frz_tup, Frz_ag, Frzs_cons, Frzs_nil, Frz_d, Frz_e0, Frz_sl, sln, isSl, slOk]; done)
      | (exfalso; omega)

set_option maxHeartbeats 8000000 in
theorem texts_fn (t : List UInt8) (l : List Int) (r : List UInt8) : Go.Gar.Fn Try.prog 10 [.s t, .is l, .by r] (.b true) := by
  refine Fn_of_W eok Try.func10 rfl rfl (Nat.le_of_ble_eq_true rfl) ?_
  by_cases ht : t.length > 255
  · have nS := True.intro
    repeat' (first
     | ((with_reducible refine sg ?_); first
      | with_reducible rfl
      | with_reducible refine andT ?_ ?_
      | with_reducible exact Nat.beq_refl _
      | with_reducible exact fitsI_u8 _
      | ((with_reducible refine decide_eq_true ?_); first | omega | (simp only [SZl, nS]; omega))
      | decide
      | (simp [SZl, slc, allOneD, D.one, allOne, AV.one, nS]; done)
      | (simp [SZl, nS]; omega))
     | ((with_reducible refine gWl ?_); first
      | (refine Wl_isMv rfl ?_; refine Xmv eok rfl rfl rfl rfl ?_)
      | refine Xq eok rfl rfl rfl rfl ?_ ?_
      | refine Xn [0, 1, 2, 6, 7, 8, 9, 10, 11, 12, 13, 14, 15, 16, 17, 18, 31, 64, 68, 92] rfl ?_
      | refine XF (wakes_fn) rfl rfl rfl rfl ?_
      | refine Xw eok rfl rfl rfl rfl ?_ ?_
      | refine Xs rfl rfl rfl ?_
      | (refine Xsplit rfl rfl (fun hc => ?_) (fun hc => ?_) <;> (try simp only [decide_eq_true_eq, decide_eq_false_iff_not, Bool.not_eq_true', Bool.not_eq_false', beq_iff_eq, beq_eq_false_iff_ne, bne_iff_ne, bne_eq_false_iff_eq, ne_eq, Int.not_lt, Int.not_le, ge_iff_le, gt_iff_lt] at hc) <;> (try (exfalso; omega))))
     | refine W_seq ?_
     | refine W_region ?_
     | refine W_skip ?_
     | refine W_ret ?_
     | refine W_block ?_
     | refine W_exit ?_
     | refine W_cond_t rfl ?_
     | refine W_cond_f rfl ?_
     | (refine W_cond rfl (fun hc => ?_) (fun hc => ?_) <;> (try simp only [decide_eq_true_eq, decide_eq_false_iff_not, Bool.not_eq_true', Bool.not_eq_false', beq_iff_eq, beq_eq_false_iff_ne, bne_iff_ne, bne_eq_false_iff_eq, ne_eq, Int.not_lt, Int.not_le, ge_iff_le, gt_iff_lt] at hc) <;> (try (exfalso; omega))))
    refine ⟨_, _, rfl, rfl, ?_⟩; simp [Frz_tup, Frz_ag, Frzs_cons, Frzs_nil, Frz_d, Frz_e0, Frz_sl, sln, isSl, slOk]
  by_cases hl : l.length > 100
  · have nS := True.intro
    repeat' (first
     | ((with_reducible refine sg ?_); first
      | with_reducible rfl
      | with_reducible refine andT ?_ ?_
      | with_reducible exact Nat.beq_refl _
      | with_reducible exact fitsI_u8 _
      | ((with_reducible refine decide_eq_true ?_); first | omega | (simp only [SZl, nS]; omega))
      | decide
      | (simp [SZl, slc, allOneD, D.one, allOne, AV.one, nS]; done)
      | (simp [SZl, nS]; omega))
     | ((with_reducible refine gWl ?_); first
      | (refine Wl_isMv rfl ?_; refine Xmv eok rfl rfl rfl rfl ?_)
      | refine Xq eok rfl rfl rfl rfl ?_ ?_
      | refine Xn [0, 1, 2, 6, 7, 8, 9, 10, 11, 12, 13, 14, 15, 16, 17, 18, 31, 64, 68, 92] rfl ?_
      | refine XF (wakes_fn) rfl rfl rfl rfl ?_
      | refine Xw eok rfl rfl rfl rfl ?_ ?_
      | refine Xs rfl rfl rfl ?_
      | (refine Xsplit rfl rfl (fun hc => ?_) (fun hc => ?_) <;> (try simp only [decide_eq_true_eq, decide_eq_false_iff_not, Bool.not_eq_true', Bool.not_eq_false', beq_iff_eq, beq_eq_false_iff_ne, bne_iff_ne, bne_eq_false_iff_eq, ne_eq, Int.not_lt, Int.not_le, ge_iff_le, gt_iff_lt] at hc) <;> (try (exfalso; omega))))
     | refine W_seq ?_
     | refine W_region ?_
     | refine W_skip ?_
     | refine W_ret ?_
     | refine W_block ?_
     | refine W_exit ?_
     | refine W_cond_t rfl ?_
     | refine W_cond_f rfl ?_
     | (refine W_cond rfl (fun hc => ?_) (fun hc => ?_) <;> (try simp only [decide_eq_true_eq, decide_eq_false_iff_not, Bool.not_eq_true', Bool.not_eq_false', beq_iff_eq, beq_eq_false_iff_ne, bne_iff_ne, bne_eq_false_iff_eq, ne_eq, Int.not_lt, Int.not_le, ge_iff_le, gt_iff_lt] at hc) <;> (try (exfalso; omega))))
    refine ⟨_, _, rfl, rfl, ?_⟩; simp [Frz_tup, Frz_ag, Frzs_cons, Frzs_nil, Frz_d, Frz_e0, Frz_sl, sln, isSl, slOk]
  by_cases hr : r.length > 60
  · have nS := True.intro
    repeat' (first
     | ((with_reducible refine sg ?_); first
      | with_reducible rfl
      | with_reducible refine andT ?_ ?_
      | with_reducible exact Nat.beq_refl _
      | with_reducible exact fitsI_u8 _
      | ((with_reducible refine decide_eq_true ?_); first | omega | (simp only [SZl, nS]; omega))
      | decide
      | (simp [SZl, slc, allOneD, D.one, allOne, AV.one, nS]; done)
      | (simp [SZl, nS]; omega))
     | ((with_reducible refine gWl ?_); first
      | (refine Wl_isMv rfl ?_; refine Xmv eok rfl rfl rfl rfl ?_)
      | refine Xq eok rfl rfl rfl rfl ?_ ?_
      | refine Xn [0, 1, 2, 6, 7, 8, 9, 10, 11, 12, 13, 14, 15, 16, 17, 18, 31, 64, 68, 92] rfl ?_
      | refine XF (wakes_fn) rfl rfl rfl rfl ?_
      | refine Xw eok rfl rfl rfl rfl ?_ ?_
      | refine Xs rfl rfl rfl ?_
      | (refine Xsplit rfl rfl (fun hc => ?_) (fun hc => ?_) <;> (try simp only [decide_eq_true_eq, decide_eq_false_iff_not, Bool.not_eq_true', Bool.not_eq_false', beq_iff_eq, beq_eq_false_iff_ne, bne_iff_ne, bne_eq_false_iff_eq, ne_eq, Int.not_lt, Int.not_le, ge_iff_le, gt_iff_lt] at hc) <;> (try (exfalso; omega))))
     | refine W_seq ?_
     | refine W_region ?_
     | refine W_skip ?_
     | refine W_ret ?_
     | refine W_block ?_
     | refine W_exit ?_
     | refine W_cond_t rfl ?_
     | refine W_cond_f rfl ?_
     | (refine W_cond rfl (fun hc => ?_) (fun hc => ?_) <;> (try simp only [decide_eq_true_eq, decide_eq_false_iff_not, Bool.not_eq_true', Bool.not_eq_false', beq_iff_eq, beq_eq_false_iff_ne, bne_iff_ne, bne_eq_false_iff_eq, ne_eq, Int.not_lt, Int.not_le, ge_iff_le, gt_iff_lt] at hc) <;> (try (exfalso; omega))))
    refine ⟨_, _, rfl, rfl, ?_⟩; simp [Frz_tup, Frz_ag, Frzs_cons, Frzs_nil, Frz_d, Frz_e0, Frz_sl, sln, isSl, slOk]
  have e1 : textS t = (UInt8.ofNat t.length :: t, 0) := by unfold textS; rw [if_neg ht]
  have e2 := text_back t r (by omega)
  rw [List.cons_append] at e2
  have e3 : takeTextS (UInt8.ofNat t.length :: (t ++ r)) = (t, r, 0) := e2
  have nS := And.intro e1 e3
  repeat' (first
   | ((with_reducible refine sg ?_); first
    | with_reducible rfl
    | with_reducible refine andT ?_ ?_
    | with_reducible exact Nat.beq_refl _
    | with_reducible exact fitsI_u8 _
    | ((with_reducible refine decide_eq_true ?_); first | omega | (simp only [SZl, nS]; omega))
    | decide
    | (simp [SZl, slc, allOneD, D.one, allOne, AV.one, nS]; done)
    | (simp [SZl, nS]; omega))
   | ((with_reducible refine gWl ?_); first
    | (refine Wl_isMv rfl ?_; refine Xmv eok rfl rfl rfl rfl ?_)
    | refine XaoL [41] eok rfl rfl rfl rfl rfl rfl ?_ ?_ (hx := by first | (simp only [NSl, NHl, Nat.reduceAdd, Int.reduceAdd, Int.reduceSub, Int.reduceMul, Int.reduceToNat, nS, takeT3]; rfl) | rfl)
    | refine Xq eok rfl rfl rfl rfl ?_ ?_ (hx := by first | (simp only [NSl, NHl, Nat.reduceAdd, Int.reduceAdd, Int.reduceSub, Int.reduceMul, Int.reduceToNat, nS, takeT3]; rfl) | rfl)
    | refine Xn [0, 1, 2, 6, 7, 8, 9, 10, 11, 12, 13, 14, 15, 16, 17, 18, 31, 64, 68, 92] rfl ?_
    | refine Xfz 43 rfl rfl rfl (by first | rfl | simp [sln]) ?_
    | refine XF (text_fn t) rfl rfl rfl rfl ?_ (hr := by first | (simp only [NSl, NHl, Nat.reduceAdd, Int.reduceAdd, Int.reduceSub, Int.reduceMul, Int.reduceToNat, nS, takeT3]; rfl) | rfl)
    | refine XF (TakeText_fn (UInt8.ofNat t.length :: t ++ r) (by simp; omega)) rfl rfl rfl rfl ?_ (hr := by first | (simp only [NSl, NHl, Nat.reduceAdd, Int.reduceAdd, Int.reduceSub, Int.reduceMul, Int.reduceToNat, nS, takeT3]; rfl) | rfl)
    | refine XF (same_fn _ _) rfl rfl rfl rfl ?_ (hr := by first | (simp only [NSl, NHl, Nat.reduceAdd, Int.reduceAdd, Int.reduceSub, Int.reduceMul, Int.reduceToNat, nS, takeT3]; rfl) | rfl)
    | refine Xw eok rfl rfl rfl rfl ?_ ?_ (hx := by first | (simp only [NSl, NHl, Nat.reduceAdd, Int.reduceAdd, Int.reduceSub, Int.reduceMul, Int.reduceToNat, nS, takeT3]; rfl) | rfl)
    | refine Xs rfl rfl rfl ?_
    | (refine Xsplit rfl rfl (fun hc => ?_) (fun hc => ?_) <;> (try simp only [decide_eq_true_eq, decide_eq_false_iff_not, Bool.not_eq_true', Bool.not_eq_false', beq_iff_eq, beq_eq_false_iff_ne, bne_iff_ne, bne_eq_false_iff_eq, ne_eq, Int.not_lt, Int.not_le, ge_iff_le, gt_iff_lt] at hc) <;> (try (exfalso; omega))))
   | refine W_seq ?_
   | refine W_region ?_
   | refine W_skip ?_
   | refine W_ret ?_
   | refine W_block ?_
   | refine W_exit ?_
   | refine W_cond_t rfl ?_
   | refine W_cond_f rfl ?_
   | (refine W_cond rfl (fun hc => ?_) (fun hc => ?_) <;> (try simp only [decide_eq_true_eq, decide_eq_false_iff_not, Bool.not_eq_true', Bool.not_eq_false', beq_iff_eq, beq_eq_false_iff_ne, bne_iff_ne, bne_eq_false_iff_eq, ne_eq, Int.not_lt, Int.not_le, ge_iff_le, gt_iff_lt] at hc) <;> (try (exfalso; omega))))
  refine W_loopI (fun k => k ≤ l.length) (fun k : Nat => ⟨[(0, .d (.s t)), (1, .d (.is l)), (2, .d (.by r)), (6, .d (.b false)), (12, .d (.b ((l.take k).all fits))), (13, .d (.i .i64 k))], [.gone], 132⟩) (fun k => l.length - k) 0 (Nat.zero_le _) ?_ (by simp [frzH]) ?_
  · exact TSub.cut rfl (by repeat' (first | exact True.intro | refine And.intro (by (first | rfl | ((with_reducible_and_instances refine congrArg (fun z => some (AV.d (D.i _ z))) ?_); omega) | (refine congrArg (fun z => some (AV.d (D.i _ z))) (?_ : (_ : Int) = _); omega) | (refine congrArg some ?_; simp; done))) ?_)) (by repeat' (first | exact True.intro | refine And.intro (Or.inr rfl) ?_ | refine And.intro (Or.inl ⟨rfl, rfl⟩) ?_ | refine And.intro (Or.inr (by simp)) ?_)) (by first | rfl | (simp (decide := true) [heapOk, Blk.ok, AV.oks, AV.ok, hk]; done)) rfl
  intro k hk
  by_cases hkl : k < l.length
  · have hall := all_take_succ hkl
    cases hA : (l.take k).all fits with
    | false =>
      rw [hA, Bool.false_and] at hall
      have nS := True.intro
      repeat' (first
       | ((with_reducible refine sg ?_); first
        | with_reducible rfl
        | with_reducible refine andT ?_ ?_
        | with_reducible exact Nat.beq_refl _
        | with_reducible exact fitsI_u8 _
        | ((with_reducible refine decide_eq_true ?_); first | omega | (simp only [SZl, nS]; omega))
        | decide
        | (simp [SZl, slc, allOneD, D.one, allOne, AV.one, nS]; done)
        | (simp [SZl, nS]; omega))
       | ((with_reducible refine gWl ?_); first
        | (refine Wl_isMv rfl ?_; refine Xmv eok rfl rfl rfl rfl ?_)
        | refine Xq eok rfl rfl rfl rfl ?_ ?_
        | refine Xn [0, 1, 2, 6, 7, 8, 9, 10, 11, 12, 13, 14, 15, 16, 17, 18, 31, 64, 68, 92] rfl ?_
        | refine Xw eok rfl rfl rfl rfl ?_ ?_
        | refine Xs rfl rfl rfl ?_
        | (refine Xsplit rfl rfl (fun hc => ?_) (fun hc => ?_) <;> (try simp only [decide_eq_true_eq, decide_eq_false_iff_not, Bool.not_eq_true', Bool.not_eq_false', beq_iff_eq, beq_eq_false_iff_ne, bne_iff_ne, bne_eq_false_iff_eq, ne_eq, Int.not_lt, Int.not_le, ge_iff_le, gt_iff_lt] at hc) <;> (try (exfalso; omega))))
       | refine W_seq ?_
       | refine W_region ?_
       | refine W_skip ?_
       | refine W_ret ?_
       | refine W_block ?_
       | refine W_exit ?_
       | refine W_cond_t rfl ?_
       | refine W_cond_f rfl ?_
       | (refine W_cond rfl (fun hc => ?_) (fun hc => ?_) <;> (try simp only [decide_eq_true_eq, decide_eq_false_iff_not, Bool.not_eq_true', Bool.not_eq_false', beq_iff_eq, beq_eq_false_iff_ne, bne_iff_ne, bne_eq_false_iff_eq, ne_eq, Int.not_lt, Int.not_le, ge_iff_le, gt_iff_lt] at hc) <;> (try (exfalso; omega))))
      refine ⟨k + 1, hkl, by omega, Nat.le_refl _, ?_⟩
      exact TSub.cut rfl (by repeat' (first | exact True.intro | refine And.intro (by (first | rfl | ((with_reducible_and_instances refine congrArg (fun z => some (AV.d (D.i _ z))) ?_); omega) | (refine congrArg (fun z => some (AV.d (D.i _ z))) (?_ : (_ : Int) = _); omega) | (refine congrArg some ?_; simp only [hall]; done) | (refine congrArg some ?_; simp [hall]; done))) ?_)) (by repeat' (first | exact True.intro | refine And.intro (Or.inr rfl) ?_ | refine And.intro (Or.inl ⟨rfl, rfl⟩) ?_ | refine And.intro (Or.inr (by simp only [hall])) ?_ | refine And.intro (Or.inr (by simp [hall])) ?_)) (by first | rfl | (simp (decide := true) [heapOk, Blk.ok, AV.oks, AV.ok, hk]; done)) rfl
    | true =>
      rw [hA, Bool.true_and] at hall
      by_cases h0 : 0 ≤ l.getD k 0
      · have g0 : decide (l.getD k 0 ≥ 0) = true := decide_eq_true h0
        by_cases h1 : l.getD k 0 ≤ 1099511627776
        · have g1 : decide (l.getD k 0 ≤ 1099511627776) = true := decide_eq_true h1
          rw [fits_of h0 h1] at hall
          have nS := And.intro g0 g1
          repeat' (first
           | ((with_reducible refine sg ?_); first
            | with_reducible rfl
            | with_reducible refine andT ?_ ?_
            | with_reducible exact Nat.beq_refl _
            | with_reducible exact fitsI_u8 _
            | ((with_reducible refine decide_eq_true ?_); first | omega | (simp only [SZl, nS]; omega))
            | decide
            | (simp [SZl, slc, allOneD, D.one, allOne, AV.one, nS]; done)
            | (simp [SZl, nS]; omega))
           | ((with_reducible refine gWl ?_); first
            | (refine Wl_isMv rfl ?_; refine Xmv eok rfl rfl rfl rfl ?_)
            | refine Xq eok rfl rfl rfl rfl ?_ ?_
            | refine Xn [0, 1, 2, 6, 7, 8, 9, 10, 11, 12, 13, 14, 15, 16, 17, 18, 31, 64, 68, 92] rfl ?_
            | refine Xw eok rfl rfl rfl rfl ?_ ?_
            | refine Xs rfl rfl rfl ?_
            | (refine Xsplit rfl rfl (fun hc => ?_) (fun hc => ?_) <;> (try simp only [decide_eq_true_eq, decide_eq_false_iff_not, Bool.not_eq_true', Bool.not_eq_false', beq_iff_eq, beq_eq_false_iff_ne, bne_iff_ne, bne_eq_false_iff_eq, ne_eq, Int.not_lt, Int.not_le, ge_iff_le, gt_iff_lt] at hc) <;> (try (exfalso; omega))))
           | refine W_seq ?_
           | refine W_region ?_
           | refine W_skip ?_
           | refine W_ret ?_
           | refine W_block ?_
           | refine W_exit ?_
           | refine W_cond_t rfl ?_
           | refine W_cond_f rfl ?_
           | (refine W_cond rfl (fun hc => ?_) (fun hc => ?_) <;> (try simp only [decide_eq_true_eq, decide_eq_false_iff_not, Bool.not_eq_true', Bool.not_eq_false', beq_iff_eq, beq_eq_false_iff_ne, bne_iff_ne, bne_eq_false_iff_eq, ne_eq, Int.not_lt, Int.not_le, ge_iff_le, gt_iff_lt] at hc) <;> (try (exfalso; omega))))
          refine ⟨k + 1, hkl, by omega, Nat.le_refl _, ?_⟩
          exact TSub.cut rfl (by repeat' (first | exact True.intro | refine And.intro (by (first | rfl | ((with_reducible_and_instances refine congrArg (fun z => some (AV.d (D.i _ z))) ?_); omega) | (refine congrArg (fun z => some (AV.d (D.i _ z))) (?_ : (_ : Int) = _); omega) | (refine congrArg some ?_; simp only [hall]; done) | (refine congrArg some ?_; simp [hall]; done))) ?_)) (by repeat' (first | exact True.intro | refine And.intro (Or.inr rfl) ?_ | refine And.intro (Or.inl ⟨rfl, rfl⟩) ?_ | refine And.intro (Or.inr (by simp only [hall])) ?_ | refine And.intro (Or.inr (by simp [hall])) ?_)) (by first | rfl | (simp (decide := true) [heapOk, Blk.ok, AV.oks, AV.ok, hk]; done)) rfl
        · have g1 : decide (l.getD k 0 ≤ 1099511627776) = false := decide_eq_false h1
          have hf : fits (l.getD k 0) = false := by simp only [fits, g1, Bool.and_false]
          rw [hf] at hall
          have nS := And.intro g0 g1
          repeat' (first
           | ((with_reducible refine sg ?_); first
            | with_reducible rfl
            | with_reducible refine andT ?_ ?_
            | with_reducible exact Nat.beq_refl _
            | with_reducible exact fitsI_u8 _
            | ((with_reducible refine decide_eq_true ?_); first | omega | (simp only [SZl, nS]; omega))
            | decide
            | (simp [SZl, slc, allOneD, D.one, allOne, AV.one, nS]; done)
            | (simp [SZl, nS]; omega))
           | ((with_reducible refine gWl ?_); first
            | (refine Wl_isMv rfl ?_; refine Xmv eok rfl rfl rfl rfl ?_)
            | refine Xq eok rfl rfl rfl rfl ?_ ?_
            | refine Xn [0, 1, 2, 6, 7, 8, 9, 10, 11, 12, 13, 14, 15, 16, 17, 18, 31, 64, 68, 92] rfl ?_
            | refine Xw eok rfl rfl rfl rfl ?_ ?_
            | refine Xs rfl rfl rfl ?_
            | (refine Xsplit rfl rfl (fun hc => ?_) (fun hc => ?_) <;> (try simp only [decide_eq_true_eq, decide_eq_false_iff_not, Bool.not_eq_true', Bool.not_eq_false', beq_iff_eq, beq_eq_false_iff_ne, bne_iff_ne, bne_eq_false_iff_eq, ne_eq, Int.not_lt, Int.not_le, ge_iff_le, gt_iff_lt] at hc) <;> (try (exfalso; omega))))
           | refine W_seq ?_
           | refine W_region ?_
           | refine W_skip ?_
           | refine W_ret ?_
           | refine W_block ?_
           | refine W_exit ?_
           | refine W_cond_t rfl ?_
           | refine W_cond_f rfl ?_
           | (refine W_cond rfl (fun hc => ?_) (fun hc => ?_) <;> (try simp only [decide_eq_true_eq, decide_eq_false_iff_not, Bool.not_eq_true', Bool.not_eq_false', beq_iff_eq, beq_eq_false_iff_ne, bne_iff_ne, bne_eq_false_iff_eq, ne_eq, Int.not_lt, Int.not_le, ge_iff_le, gt_iff_lt] at hc) <;> (try (exfalso; omega))))
          refine ⟨k + 1, hkl, by omega, Nat.le_refl _, ?_⟩
          exact TSub.cut rfl (by repeat' (first | exact True.intro | refine And.intro (by (first | rfl | ((with_reducible_and_instances refine congrArg (fun z => some (AV.d (D.i _ z))) ?_); omega) | (refine congrArg (fun z => some (AV.d (D.i _ z))) (?_ : (_ : Int) = _); omega) | (refine congrArg some ?_; simp only [hall]; done) | (refine congrArg some ?_; simp [hall]; done))) ?_)) (by repeat' (first | exact True.intro | refine And.intro (Or.inr rfl) ?_ | refine And.intro (Or.inl ⟨rfl, rfl⟩) ?_ | refine And.intro (Or.inr (by simp only [hall])) ?_ | refine And.intro (Or.inr (by simp [hall])) ?_)) (by first | rfl | (simp (decide := true) [heapOk, Blk.ok, AV.oks, AV.ok, hk]; done)) rfl
      · have g0 : decide (l.getD k 0 ≥ 0) = false := decide_eq_false h0
        have hf : fits (l.getD k 0) = false := by simp only [fits, g0, Bool.false_and]
        rw [hf] at hall
        have nS := g0
        repeat' (first
         | ((with_reducible refine sg ?_); first
          | with_reducible rfl
          | with_reducible refine andT ?_ ?_
          | with_reducible exact Nat.beq_refl _
          | with_reducible exact fitsI_u8 _
          | ((with_reducible refine decide_eq_true ?_); first | omega | (simp only [SZl, nS]; omega))
          | decide
          | (simp [SZl, slc, allOneD, D.one, allOne, AV.one, nS]; done)
          | (simp [SZl, nS]; omega))
         | ((with_reducible refine gWl ?_); first
          | (refine Wl_isMv rfl ?_; refine Xmv eok rfl rfl rfl rfl ?_)
          | refine Xq eok rfl rfl rfl rfl ?_ ?_
          | refine Xn [0, 1, 2, 6, 7, 8, 9, 10, 11, 12, 13, 14, 15, 16, 17, 18, 31, 64, 68, 92] rfl ?_
          | refine Xw eok rfl rfl rfl rfl ?_ ?_
          | refine Xs rfl rfl rfl ?_
          | (refine Xsplit rfl rfl (fun hc => ?_) (fun hc => ?_) <;> (try simp only [decide_eq_true_eq, decide_eq_false_iff_not, Bool.not_eq_true', Bool.not_eq_false', beq_iff_eq, beq_eq_false_iff_ne, bne_iff_ne, bne_eq_false_iff_eq, ne_eq, Int.not_lt, Int.not_le, ge_iff_le, gt_iff_lt] at hc) <;> (try (exfalso; omega))))
         | refine W_seq ?_
         | refine W_region ?_
         | refine W_skip ?_
         | refine W_ret ?_
         | refine W_block ?_
         | refine W_exit ?_
         | refine W_cond_t rfl ?_
         | refine W_cond_f rfl ?_
         | (refine W_cond rfl (fun hc => ?_) (fun hc => ?_) <;> (try simp only [decide_eq_true_eq, decide_eq_false_iff_not, Bool.not_eq_true', Bool.not_eq_false', beq_iff_eq, beq_eq_false_iff_ne, bne_iff_ne, bne_eq_false_iff_eq, ne_eq, Int.not_lt, Int.not_le, ge_iff_le, gt_iff_lt] at hc) <;> (try (exfalso; omega))))
        refine ⟨k + 1, hkl, by omega, Nat.le_refl _, ?_⟩
        exact TSub.cut rfl (by repeat' (first | exact True.intro | refine And.intro (by (first | rfl | ((with_reducible_and_instances refine congrArg (fun z => some (AV.d (D.i _ z))) ?_); omega) | (refine congrArg (fun z => some (AV.d (D.i _ z))) (?_ : (_ : Int) = _); omega) | (refine congrArg some ?_; simp only [hall]; done) | (refine congrArg some ?_; simp [hall]; done))) ?_)) (by repeat' (first | exact True.intro | refine And.intro (Or.inr rfl) ?_ | refine And.intro (Or.inl ⟨rfl, rfl⟩) ?_ | refine And.intro (Or.inr (by simp only [hall])) ?_ | refine And.intro (Or.inr (by simp [hall])) ?_)) (by first | rfl | (simp (decide := true) [heapOk, Blk.ok, AV.oks, AV.ok, hk]; done)) rfl
  · have e : k = l.length := by omega
    subst e
    rw [List.take_length]
    cases hA : l.all fits with
    | false =>
      have e4 : listS l = ([], 2) := by unfold listS; rw [if_neg (by omega), hA]; rfl
      have nS := e4
      repeat' (first
       | ((with_reducible refine sg ?_); first
        | with_reducible rfl
        | with_reducible refine andT ?_ ?_
        | with_reducible exact Nat.beq_refl _
        | with_reducible exact fitsI_u8 _
        | ((with_reducible refine decide_eq_true ?_); first | omega | (simp only [SZl, nS]; omega))
        | decide
        | (simp [SZl, slc, allOneD, D.one, allOne, AV.one, nS]; done)
        | (simp [SZl, nS]; omega))
       | ((with_reducible refine gWl ?_); first
        | (refine Wl_isMv rfl ?_; refine Xmv eok rfl rfl rfl rfl ?_)
        | refine Xq eok rfl rfl rfl rfl ?_ ?_
        | refine Xn [0, 1, 2, 6, 7, 8, 9, 10, 11, 12, 13, 14, 15, 16, 17, 18, 31, 64, 68, 92] rfl ?_
        | refine XF (list_fn l) rfl rfl rfl rfl ?_
        | refine XF (wakes_fn) rfl rfl rfl rfl ?_
        | refine Xw eok rfl rfl rfl rfl ?_ ?_
        | refine Xs rfl rfl rfl ?_
        | (refine Xsplit rfl rfl (fun hc => ?_) (fun hc => ?_) <;> (try simp only [decide_eq_true_eq, decide_eq_false_iff_not, Bool.not_eq_true', Bool.not_eq_false', beq_iff_eq, beq_eq_false_iff_ne, bne_iff_ne, bne_eq_false_iff_eq, ne_eq, Int.not_lt, Int.not_le, ge_iff_le, gt_iff_lt] at hc) <;> (try (exfalso; omega))))
       | refine W_seq ?_
       | refine W_region ?_
       | refine W_skip ?_
       | refine W_ret ?_
       | refine W_block ?_
       | refine W_exit ?_
       | refine W_cond_t rfl ?_
       | refine W_cond_f rfl ?_
       | (refine W_cond rfl (fun hc => ?_) (fun hc => ?_) <;> (try simp only [decide_eq_true_eq, decide_eq_false_iff_not, Bool.not_eq_true', Bool.not_eq_false', beq_iff_eq, beq_eq_false_iff_ne, bne_iff_ne, bne_eq_false_iff_eq, ne_eq, Int.not_lt, Int.not_le, ge_iff_le, gt_iff_lt] at hc) <;> (try (exfalso; omega))))
      refine ⟨_, _, rfl, rfl, ?_⟩; simp [Frz_tup, Frz_ag, Frzs_cons, Frzs_nil, Frz_d, Frz_e0, Frz_sl, sln, isSl, slOk]
    | true =>
      have e4 : listS l = (UInt8.ofNat l.length :: numsB l, 0) := by unfold listS; rw [if_neg (by omega), hA]; rfl
      have e5 := list_back l r (by omega) hA
      rw [List.cons_append] at e5
      have e6 : takeListS (UInt8.ofNat l.length :: (numsB l ++ r)) = (l, r, 0) := e5
      have hn := numsB_len l hA
      have nS := And.intro e4 e6
      repeat' (first
       | ((with_reducible refine sg ?_); first
        | with_reducible rfl
        | with_reducible refine andT ?_ ?_
        | with_reducible exact Nat.beq_refl _
        | with_reducible exact fitsI_u8 _
        | ((with_reducible refine decide_eq_true ?_); first | omega | (simp only [SZl, nS]; omega))
        | decide
        | (simp [SZl, slc, allOneD, D.one, allOne, AV.one, nS]; done)
        | (simp [SZl, nS]; omega))
       | ((with_reducible refine gWl ?_); first
        | (refine Wl_isMv rfl ?_; refine Xmv eok rfl rfl rfl rfl ?_)
        | refine XaoL [106] eok rfl rfl rfl rfl rfl rfl ?_ ?_ (hx := by first | (simp only [NSl, NHl, Nat.reduceAdd, Int.reduceAdd, Int.reduceSub, Int.reduceMul, Int.reduceToNat, nS, takeL3]; rfl) | rfl)
        | refine Xq eok rfl rfl rfl rfl ?_ ?_ (hx := by first | (simp only [NSl, NHl, Nat.reduceAdd, Int.reduceAdd, Int.reduceSub, Int.reduceMul, Int.reduceToNat, nS, takeL3]; rfl) | rfl)
        | refine Xn [0, 1, 2, 6, 7, 8, 9, 10, 11, 12, 13, 14, 15, 16, 17, 18, 31, 64, 68, 92] rfl ?_
        | refine Xfz 108 rfl rfl rfl (by first | rfl | simp [sln]) ?_
        | refine XF (list_fn l) rfl rfl rfl rfl ?_ (hr := by first | (simp only [NSl, NHl, Nat.reduceAdd, Int.reduceAdd, Int.reduceSub, Int.reduceMul, Int.reduceToNat, nS, takeL3]; rfl) | rfl)
        | refine XF (TakeList_fn (UInt8.ofNat l.length :: numsB l ++ r) (by simp; omega)) rfl rfl rfl rfl ?_ (hr := by first | (simp only [NSl, NHl, Nat.reduceAdd, Int.reduceAdd, Int.reduceSub, Int.reduceMul, Int.reduceToNat, nS, takeL3]; rfl) | rfl)
        | refine XF (ints_fn l l (by omega)) rfl rfl rfl rfl ?_ (hr := by first | (simp only [NSl, NHl, Nat.reduceAdd, Int.reduceAdd, Int.reduceSub, Int.reduceMul, Int.reduceToNat, nS, takeL3]; rfl) | rfl)
        | refine XF (same_fn _ _) rfl rfl rfl rfl ?_ (hr := by first | (simp only [NSl, NHl, Nat.reduceAdd, Int.reduceAdd, Int.reduceSub, Int.reduceMul, Int.reduceToNat, nS, takeL3]; rfl) | rfl)
        | refine XF (wakes_fn) rfl rfl rfl rfl ?_ (hr := by first | (simp only [NSl, NHl, Nat.reduceAdd, Int.reduceAdd, Int.reduceSub, Int.reduceMul, Int.reduceToNat, nS, takeL3]; rfl) | rfl)
        | refine Xw eok rfl rfl rfl rfl ?_ ?_ (hx := by first | (simp only [NSl, NHl, Nat.reduceAdd, Int.reduceAdd, Int.reduceSub, Int.reduceMul, Int.reduceToNat, nS, takeL3]; rfl) | rfl)
        | refine Xs rfl rfl rfl ?_
        | (refine Xsplit rfl rfl (fun hc => ?_) (fun hc => ?_) <;> (try simp only [decide_eq_true_eq, decide_eq_false_iff_not, Bool.not_eq_true', Bool.not_eq_false', beq_iff_eq, beq_eq_false_iff_ne, bne_iff_ne, bne_eq_false_iff_eq, ne_eq, Int.not_lt, Int.not_le, ge_iff_le, gt_iff_lt] at hc) <;> (try (exfalso; omega))))
       | refine W_seq ?_
       | refine W_region ?_
       | refine W_skip ?_
       | refine W_ret ?_
       | refine W_block ?_
       | refine W_exit ?_
       | refine W_cond_t rfl ?_
       | refine W_cond_f rfl ?_
       | (refine W_cond rfl (fun hc => ?_) (fun hc => ?_) <;> (try simp only [decide_eq_true_eq, decide_eq_false_iff_not, Bool.not_eq_true', Bool.not_eq_false', beq_iff_eq, beq_eq_false_iff_ne, bne_iff_ne, bne_eq_false_iff_eq, ne_eq, Int.not_lt, Int.not_le, ge_iff_le, gt_iff_lt] at hc) <;> (try (exfalso; omega))))
      refine ⟨_, _, rfl, rfl, ?_⟩; simp [Frz_tup, Frz_ag, Frzs_cons, Frzs_nil, Frz_d, Frz_e0, Frz_sl, sln, isSl, slOk]

end Go.Proofs.Ytgnddlldcglpfaa
