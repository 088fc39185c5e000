/- Written by a program (pre.py) from the source of the same name. -/
/- Numbers: the law that what is taken was put. -/
import Derived.Test.YtgnddlldcglpfaaNumB
set_option linter.unusedSimpArgs false
set_option linter.unusedVariables false
set_option linter.unnecessarySimpa false
namespace Go.Proofs.Ytgnddlldcglpfaa
open Go.Gar
set_option maxRecDepth 4000

set_option maxHeartbeats 4000000 in
theorem only000 (b : List UInt8) (hb : ¬ b.length > 600) (n : Nat) (p : List UInt8) (hA : takeS b = (n, p, 0)) (hbA : b = numB n ++ p) (hn : n ≤ 1099511627776) (s q : List UInt8) (hB : takeTextS b = (s, q, 0)) (hbB : b = UInt8.ofNat s.length :: s ++ q) (hs : s.length ≤ 255) (l : List Int) (r : List UInt8) (hC : takeListS b = (l, r, 0)) (hbC : b = UInt8.ofNat l.length :: numsB l ++ r) (hl : l.length ≤ 255) (hf : l.all fits = true) : Go.Gar.Fn Try.prog 11 [.by b] (.b true) := by
  have eA := putS_nat hn
  have sA : ((numB n ++ p) == b) = true := by rw [← hbA]; exact beq_self_eq_true b
  have lA := congrArg List.length hbA
  rw [List.length_append] at lA
  have eB : textS s = (UInt8.ofNat s.length :: s, 0) := by unfold textS; rw [if_neg (by omega)]
  have sB : ((UInt8.ofNat s.length :: (s ++ q)) == b) = true := by rw [← List.cons_append, ← hbB]; exact beq_self_eq_true b
  have lB := congrArg List.length hbB
  rw [List.length_append, List.length_cons] at lB
  have eC : listS l = (UInt8.ofNat l.length :: numsB l, 0) := by unfold listS; rw [if_neg (by omega), hf]; rfl
  have sC : ((UInt8.ofNat l.length :: (numsB l ++ r)) == b) = true := by rw [← List.cons_append, ← hbC]; exact beq_self_eq_true b
  have lC := congrArg List.length hbC
  rw [List.length_append, List.length_cons] at lC
  refine Fn_of_W eok Try.func11 rfl rfl (Nat.le_of_ble_eq_true rfl) ?_
  have nS := And.intro hA (And.intro eA (And.intro sA (And.intro hB (And.intro eB (And.intro sB (And.intro hC (And.intro eC sC)))))))
  repeat' (first
   | ((with_reducible refine sg ?_); first
    | with_reducible rfl
    | with_reducible refine andT ?_ ?_
    | with_reducible exact Nat.beq_refl _
    | with_reducible exact fitsI_u8 _
    | ((with_reducible refine decide_eq_true ?_); first | omega | (simp only [SZl, nS]; omega))
    | decide
    | (simp [SZl, slc, allOneD, D.one, allOne, AV.one, nS]; done)
    | (simp [SZl, nS]; omega))
   | ((with_reducible refine gWl ?_); first
    | (refine Wl_isMv rfl ?_; refine Xmv eok rfl rfl rfl rfl ?_)
    | refine XaoL [63, 80, 98] eok rfl rfl rfl rfl rfl rfl ?_ ?_ (hx := by first | (simp only [NSl, NHl, Nat.reduceAdd, Int.reduceAdd, Int.reduceSub, Int.reduceMul, Int.reduceToNat, nS, takeD3, takeT3, takeL3]; rfl) | rfl)
    | refine Xq eok rfl rfl rfl rfl ?_ ?_ (hx := by first | (simp only [NSl, NHl, Nat.reduceAdd, Int.reduceAdd, Int.reduceSub, Int.reduceMul, Int.reduceToNat, nS, takeD3, takeT3, takeL3]; rfl) | rfl)
    | refine Xn [0, 2, 3, 4, 5, 6, 7, 8, 9, 10, 11, 12, 13, 14, 15, 16, 17, 20, 106, 137] rfl ?_
    | refine Xfz 65 rfl rfl rfl (by first | rfl | simp [sln]) ?_
    | refine Xfz 82 rfl rfl rfl (by first | rfl | simp [sln]) ?_
    | refine Xfz 100 rfl rfl rfl (by first | rfl | simp [sln]) ?_
    | refine XF (Take_fn b (by omega)) rfl rfl rfl rfl ?_ (hr := by first | (simp only [NSl, NHl, Nat.reduceAdd, Int.reduceAdd, Int.reduceSub, Int.reduceMul, Int.reduceToNat, nS, takeD3, takeT3, takeL3]; rfl) | rfl)
    | refine XF (TakeText_fn b (by omega)) rfl rfl rfl rfl ?_ (hr := by first | (simp only [NSl, NHl, Nat.reduceAdd, Int.reduceAdd, Int.reduceSub, Int.reduceMul, Int.reduceToNat, nS, takeD3, takeT3, takeL3]; rfl) | rfl)
    | refine XF (TakeList_fn b (by omega)) rfl rfl rfl rfl ?_ (hr := by first | (simp only [NSl, NHl, Nat.reduceAdd, Int.reduceAdd, Int.reduceSub, Int.reduceMul, Int.reduceToNat, nS, takeD3, takeT3, takeL3]; rfl) | rfl)
    | refine XF (put_fn _) rfl rfl rfl rfl ?_ (hr := by first | (simp only [NSl, NHl, Nat.reduceAdd, Int.reduceAdd, Int.reduceSub, Int.reduceMul, Int.reduceToNat, nS, takeD3, takeT3, takeL3]; rfl) | rfl)
    | refine XF (text_fn _) rfl rfl rfl rfl ?_ (hr := by first | (simp only [NSl, NHl, Nat.reduceAdd, Int.reduceAdd, Int.reduceSub, Int.reduceMul, Int.reduceToNat, nS, takeD3, takeT3, takeL3]; rfl) | rfl)
    | refine XF (list_fn _) rfl rfl rfl rfl ?_ (hr := by first | (simp only [NSl, NHl, Nat.reduceAdd, Int.reduceAdd, Int.reduceSub, Int.reduceMul, Int.reduceToNat, nS, takeD3, takeT3, takeL3]; rfl) | rfl)
    | refine XF (same_fn _ _) rfl rfl rfl rfl ?_ (hr := by first | (simp only [NSl, NHl, Nat.reduceAdd, Int.reduceAdd, Int.reduceSub, Int.reduceMul, Int.reduceToNat, nS, takeD3, takeT3, takeL3]; rfl) | rfl)
    | refine XF (wakes_fn) rfl rfl rfl rfl ?_ (hr := by first | (simp only [NSl, NHl, Nat.reduceAdd, Int.reduceAdd, Int.reduceSub, Int.reduceMul, Int.reduceToNat, nS, takeD3, takeT3, takeL3]; rfl) | rfl)
    | refine Xw eok rfl rfl rfl rfl ?_ ?_ (hx := by first | (simp only [NSl, NHl, Nat.reduceAdd, Int.reduceAdd, Int.reduceSub, Int.reduceMul, Int.reduceToNat, nS, takeD3, takeT3, takeL3]; rfl) | rfl)
    | refine Xs rfl rfl rfl ?_
    | (refine Xsplit rfl rfl (fun hc => ?_) (fun hc => ?_) <;> (try simp only [decide_eq_true_eq, decide_eq_false_iff_not, Bool.not_eq_true', Bool.not_eq_false', beq_iff_eq, beq_eq_false_iff_ne, bne_iff_ne, bne_eq_false_iff_eq, ne_eq, Int.not_lt, Int.not_le, ge_iff_le, gt_iff_lt] at hc) <;> (try (exfalso; omega))))
   | refine W_seq ?_
   | refine W_region ?_
   | refine W_skip ?_
   | refine W_ret ?_
   | refine W_block ?_
   | refine W_exit ?_
   | refine W_cond_t rfl ?_
   | refine W_cond_f rfl ?_
   | (refine W_cond rfl (fun hc => ?_) (fun hc => ?_) <;> (try simp only [decide_eq_true_eq, decide_eq_false_iff_not, Bool.not_eq_true', Bool.not_eq_false', beq_iff_eq, beq_eq_false_iff_ne, bne_iff_ne, bne_eq_false_iff_eq, ne_eq, Int.not_lt, Int.not_le, ge_iff_le, gt_iff_lt] at hc) <;> (try (exfalso; omega))))
  all_goals refine ⟨_, _, rfl, rfl, ?_⟩; simp [Frz_tup, Frz_ag, Frzs_cons, Frzs_nil, Frz_d, Frz_e0, Frz_sl, sln, isSl, slOk]
set_option maxHeartbeats 4000000 in
theorem only001 (b : List UInt8) (hb : ¬ b.length > 600) (n : Nat) (p : List UInt8) (hA : takeS b = (n, p, 0)) (hbA : b = numB n ++ p) (hn : n ≤ 1099511627776) (s q : List UInt8) (hB : takeTextS b = (s, q, 0)) (hbB : b = UInt8.ofNat s.length :: s ++ q) (hs : s.length ≤ 255) (e : Int) (hC : takeListS b = ([], [], e)) (he : e ≠ 0) : Go.Gar.Fn Try.prog 11 [.by b] (.b true) := by
  have eA := putS_nat hn
  have sA : ((numB n ++ p) == b) = true := by rw [← hbA]; exact beq_self_eq_true b
  have lA := congrArg List.length hbA
  rw [List.length_append] at lA
  have eB : textS s = (UInt8.ofNat s.length :: s, 0) := by unfold textS; rw [if_neg (by omega)]
  have sB : ((UInt8.ofNat s.length :: (s ++ q)) == b) = true := by rw [← List.cons_append, ← hbB]; exact beq_self_eq_true b
  have lB := congrArg List.length hbB
  rw [List.length_append, List.length_cons] at lB
  have eC : (e == 0) = false := by simp [he]
  have sC : (e != 0) = true := by simp [he]
  refine Fn_of_W eok Try.func11 rfl rfl (Nat.le_of_ble_eq_true rfl) ?_
  have nS := And.intro hA (And.intro eA (And.intro sA (And.intro hB (And.intro eB (And.intro sB (And.intro hC (And.intro eC sC)))))))
  repeat' (first
   | ((with_reducible refine sg ?_); first
    | with_reducible rfl
    | with_reducible refine andT ?_ ?_
    | with_reducible exact Nat.beq_refl _
    | with_reducible exact fitsI_u8 _
    | ((with_reducible refine decide_eq_true ?_); first | omega | (simp only [SZl, nS]; omega))
    | decide
    | (simp [SZl, slc, allOneD, D.one, allOne, AV.one, nS]; done)
    | (simp [SZl, nS]; omega))
   | ((with_reducible refine gWl ?_); first
    | (refine Wl_isMv rfl ?_; refine Xmv eok rfl rfl rfl rfl ?_)
    | refine XaoL [63, 80, 98] eok rfl rfl rfl rfl rfl rfl ?_ ?_ (hx := by first | (simp only [NSl, NHl, Nat.reduceAdd, Int.reduceAdd, Int.reduceSub, Int.reduceMul, Int.reduceToNat, nS, takeD3, takeT3, takeL3]; rfl) | rfl)
    | refine Xq eok rfl rfl rfl rfl ?_ ?_ (hx := by first | (simp only [NSl, NHl, Nat.reduceAdd, Int.reduceAdd, Int.reduceSub, Int.reduceMul, Int.reduceToNat, nS, takeD3, takeT3, takeL3]; rfl) | rfl)
    | refine Xn [0, 2, 3, 4, 5, 6, 7, 8, 9, 10, 11, 12, 13, 14, 15, 16, 17, 20, 106, 137] rfl ?_
    | refine Xfz 65 rfl rfl rfl (by first | rfl | simp [sln]) ?_
    | refine Xfz 82 rfl rfl rfl (by first | rfl | simp [sln]) ?_
    | refine Xfz 100 rfl rfl rfl (by first | rfl | simp [sln]) ?_
    | refine XF (Take_fn b (by omega)) rfl rfl rfl rfl ?_ (hr := by first | (simp only [NSl, NHl, Nat.reduceAdd, Int.reduceAdd, Int.reduceSub, Int.reduceMul, Int.reduceToNat, nS, takeD3, takeT3, takeL3]; rfl) | rfl)
    | refine XF (TakeText_fn b (by omega)) rfl rfl rfl rfl ?_ (hr := by first | (simp only [NSl, NHl, Nat.reduceAdd, Int.reduceAdd, Int.reduceSub, Int.reduceMul, Int.reduceToNat, nS, takeD3, takeT3, takeL3]; rfl) | rfl)
    | refine XF (TakeList_fn b (by omega)) rfl rfl rfl rfl ?_ (hr := by first | (simp only [NSl, NHl, Nat.reduceAdd, Int.reduceAdd, Int.reduceSub, Int.reduceMul, Int.reduceToNat, nS, takeD3, takeT3, takeL3]; rfl) | rfl)
    | refine XF (put_fn _) rfl rfl rfl rfl ?_ (hr := by first | (simp only [NSl, NHl, Nat.reduceAdd, Int.reduceAdd, Int.reduceSub, Int.reduceMul, Int.reduceToNat, nS, takeD3, takeT3, takeL3]; rfl) | rfl)
    | refine XF (text_fn _) rfl rfl rfl rfl ?_ (hr := by first | (simp only [NSl, NHl, Nat.reduceAdd, Int.reduceAdd, Int.reduceSub, Int.reduceMul, Int.reduceToNat, nS, takeD3, takeT3, takeL3]; rfl) | rfl)
    | refine XF (list_fn _) rfl rfl rfl rfl ?_ (hr := by first | (simp only [NSl, NHl, Nat.reduceAdd, Int.reduceAdd, Int.reduceSub, Int.reduceMul, Int.reduceToNat, nS, takeD3, takeT3, takeL3]; rfl) | rfl)
    | refine XF (same_fn _ _) rfl rfl rfl rfl ?_ (hr := by first | (simp only [NSl, NHl, Nat.reduceAdd, Int.reduceAdd, Int.reduceSub, Int.reduceMul, Int.reduceToNat, nS, takeD3, takeT3, takeL3]; rfl) | rfl)
    | refine XF (wakes_fn) rfl rfl rfl rfl ?_ (hr := by first | (simp only [NSl, NHl, Nat.reduceAdd, Int.reduceAdd, Int.reduceSub, Int.reduceMul, Int.reduceToNat, nS, takeD3, takeT3, takeL3]; rfl) | rfl)
    | refine Xw eok rfl rfl rfl rfl ?_ ?_ (hx := by first | (simp only [NSl, NHl, Nat.reduceAdd, Int.reduceAdd, Int.reduceSub, Int.reduceMul, Int.reduceToNat, nS, takeD3, takeT3, takeL3]; rfl) | rfl)
    | refine Xs rfl rfl rfl ?_
    | (refine Xsplit rfl rfl (fun hc => ?_) (fun hc => ?_) <;> (try simp only [decide_eq_true_eq, decide_eq_false_iff_not, Bool.not_eq_true', Bool.not_eq_false', beq_iff_eq, beq_eq_false_iff_ne, bne_iff_ne, bne_eq_false_iff_eq, ne_eq, Int.not_lt, Int.not_le, ge_iff_le, gt_iff_lt] at hc) <;> (try (exfalso; omega))))
   | refine W_seq ?_
   | refine W_region ?_
   | refine W_skip ?_
   | refine W_ret ?_
   | refine W_block ?_
   | refine W_exit ?_
   | refine W_cond_t rfl ?_
   | refine W_cond_f rfl ?_
   | (refine W_cond rfl (fun hc => ?_) (fun hc => ?_) <;> (try simp only [decide_eq_true_eq, decide_eq_false_iff_not, Bool.not_eq_true', Bool.not_eq_false', beq_iff_eq, beq_eq_false_iff_ne, bne_iff_ne, bne_eq_false_iff_eq, ne_eq, Int.not_lt, Int.not_le, ge_iff_le, gt_iff_lt] at hc) <;> (try (exfalso; omega))))
  all_goals refine ⟨_, _, rfl, rfl, ?_⟩; simp [Frz_tup, Frz_ag, Frzs_cons, Frzs_nil, Frz_d, Frz_e0, Frz_sl, sln, isSl, slOk]
set_option maxHeartbeats 4000000 in
theorem only010 (b : List UInt8) (hb : ¬ b.length > 600) (n : Nat) (p : List UInt8) (hA : takeS b = (n, p, 0)) (hbA : b = numB n ++ p) (hn : n ≤ 1099511627776) (hB : takeTextS b = ([], [], 11)) (l : List Int) (r : List UInt8) (hC : takeListS b = (l, r, 0)) (hbC : b = UInt8.ofNat l.length :: numsB l ++ r) (hl : l.length ≤ 255) (hf : l.all fits = true) : Go.Gar.Fn Try.prog 11 [.by b] (.b true) := by
  have eA := putS_nat hn
  have sA : ((numB n ++ p) == b) = true := by rw [← hbA]; exact beq_self_eq_true b
  have lA := congrArg List.length hbA
  rw [List.length_append] at lA
  have eC : listS l = (UInt8.ofNat l.length :: numsB l, 0) := by unfold listS; rw [if_neg (by omega), hf]; rfl
  have sC : ((UInt8.ofNat l.length :: (numsB l ++ r)) == b) = true := by rw [← List.cons_append, ← hbC]; exact beq_self_eq_true b
  have lC := congrArg List.length hbC
  rw [List.length_append, List.length_cons] at lC
  refine Fn_of_W eok Try.func11 rfl rfl (Nat.le_of_ble_eq_true rfl) ?_
  have nS := And.intro hA (And.intro eA (And.intro sA (And.intro hB (And.intro hC (And.intro eC sC)))))
  repeat' (first
   | ((with_reducible refine sg ?_); first
    | with_reducible rfl
    | with_reducible refine andT ?_ ?_
    | with_reducible exact Nat.beq_refl _
    | with_reducible exact fitsI_u8 _
    | ((with_reducible refine decide_eq_true ?_); first | omega | (simp only [SZl, nS]; omega))
    | decide
    | (simp [SZl, slc, allOneD, D.one, allOne, AV.one, nS]; done)
    | (simp [SZl, nS]; omega))
   | ((with_reducible refine gWl ?_); first
    | (refine Wl_isMv rfl ?_; refine Xmv eok rfl rfl rfl rfl ?_)
    | refine XaoL [63, 80, 98] eok rfl rfl rfl rfl rfl rfl ?_ ?_ (hx := by first | (simp only [NSl, NHl, Nat.reduceAdd, Int.reduceAdd, Int.reduceSub, Int.reduceMul, Int.reduceToNat, nS, takeD3, takeT3, takeL3]; rfl) | rfl)
    | refine Xq eok rfl rfl rfl rfl ?_ ?_ (hx := by first | (simp only [NSl, NHl, Nat.reduceAdd, Int.reduceAdd, Int.reduceSub, Int.reduceMul, Int.reduceToNat, nS, takeD3, takeT3, takeL3]; rfl) | rfl)
    | refine Xn [0, 2, 3, 4, 5, 6, 7, 8, 9, 10, 11, 12, 13, 14, 15, 16, 17, 20, 106, 137] rfl ?_
    | refine Xfz 65 rfl rfl rfl (by first | rfl | simp [sln]) ?_
    | refine Xfz 82 rfl rfl rfl (by first | rfl | simp [sln]) ?_
    | refine Xfz 100 rfl rfl rfl (by first | rfl | simp [sln]) ?_
    | refine XF (Take_fn b (by omega)) rfl rfl rfl rfl ?_ (hr := by first | (simp only [NSl, NHl, Nat.reduceAdd, Int.reduceAdd, Int.reduceSub, Int.reduceMul, Int.reduceToNat, nS, takeD3, takeT3, takeL3]; rfl) | rfl)
    | refine XF (TakeText_fn b (by omega)) rfl rfl rfl rfl ?_ (hr := by first | (simp only [NSl, NHl, Nat.reduceAdd, Int.reduceAdd, Int.reduceSub, Int.reduceMul, Int.reduceToNat, nS, takeD3, takeT3, takeL3]; rfl) | rfl)
    | refine XF (TakeList_fn b (by omega)) rfl rfl rfl rfl ?_ (hr := by first | (simp only [NSl, NHl, Nat.reduceAdd, Int.reduceAdd, Int.reduceSub, Int.reduceMul, Int.reduceToNat, nS, takeD3, takeT3, takeL3]; rfl) | rfl)
    | refine XF (put_fn _) rfl rfl rfl rfl ?_ (hr := by first | (simp only [NSl, NHl, Nat.reduceAdd, Int.reduceAdd, Int.reduceSub, Int.reduceMul, Int.reduceToNat, nS, takeD3, takeT3, takeL3]; rfl) | rfl)
    | refine XF (text_fn _) rfl rfl rfl rfl ?_ (hr := by first | (simp only [NSl, NHl, Nat.reduceAdd, Int.reduceAdd, Int.reduceSub, Int.reduceMul, Int.reduceToNat, nS, takeD3, takeT3, takeL3]; rfl) | rfl)
    | refine XF (list_fn _) rfl rfl rfl rfl ?_ (hr := by first | (simp only [NSl, NHl, Nat.reduceAdd, Int.reduceAdd, Int.reduceSub, Int.reduceMul, Int.reduceToNat, nS, takeD3, takeT3, takeL3]; rfl) | rfl)
    | refine XF (same_fn _ _) rfl rfl rfl rfl ?_ (hr := by first | (simp only [NSl, NHl, Nat.reduceAdd, Int.reduceAdd, Int.reduceSub, Int.reduceMul, Int.reduceToNat, nS, takeD3, takeT3, takeL3]; rfl) | rfl)
    | refine XF (wakes_fn) rfl rfl rfl rfl ?_ (hr := by first | (simp only [NSl, NHl, Nat.reduceAdd, Int.reduceAdd, Int.reduceSub, Int.reduceMul, Int.reduceToNat, nS, takeD3, takeT3, takeL3]; rfl) | rfl)
    | refine Xw eok rfl rfl rfl rfl ?_ ?_ (hx := by first | (simp only [NSl, NHl, Nat.reduceAdd, Int.reduceAdd, Int.reduceSub, Int.reduceMul, Int.reduceToNat, nS, takeD3, takeT3, takeL3]; rfl) | rfl)
    | refine Xs rfl rfl rfl ?_
    | (refine Xsplit rfl rfl (fun hc => ?_) (fun hc => ?_) <;> (try simp only [decide_eq_true_eq, decide_eq_false_iff_not, Bool.not_eq_true', Bool.not_eq_false', beq_iff_eq, beq_eq_false_iff_ne, bne_iff_ne, bne_eq_false_iff_eq, ne_eq, Int.not_lt, Int.not_le, ge_iff_le, gt_iff_lt] at hc) <;> (try (exfalso; omega))))
   | refine W_seq ?_
   | refine W_region ?_
   | refine W_skip ?_
   | refine W_ret ?_
   | refine W_block ?_
   | refine W_exit ?_
   | refine W_cond_t rfl ?_
   | refine W_cond_f rfl ?_
   | (refine W_cond rfl (fun hc => ?_) (fun hc => ?_) <;> (try simp only [decide_eq_true_eq, decide_eq_false_iff_not, Bool.not_eq_true', Bool.not_eq_false', beq_iff_eq, beq_eq_false_iff_ne, bne_iff_ne, bne_eq_false_iff_eq, ne_eq, Int.not_lt, Int.not_le, ge_iff_le, gt_iff_lt] at hc) <;> (try (exfalso; omega))))
  all_goals refine ⟨_, _, rfl, rfl, ?_⟩; simp [Frz_tup, Frz_ag, Frzs_cons, Frzs_nil, Frz_d, Frz_e0, Frz_sl, sln, isSl, slOk]
set_option maxHeartbeats 4000000 in
theorem only011 (b : List UInt8) (hb : ¬ b.length > 600) (n : Nat) (p : List UInt8) (hA : takeS b = (n, p, 0)) (hbA : b = numB n ++ p) (hn : n ≤ 1099511627776) (hB : takeTextS b = ([], [], 11)) (e : Int) (hC : takeListS b = ([], [], e)) (he : e ≠ 0) : Go.Gar.Fn Try.prog 11 [.by b] (.b true) := by
  have eA := putS_nat hn
  have sA : ((numB n ++ p) == b) = true := by rw [← hbA]; exact beq_self_eq_true b
  have lA := congrArg List.length hbA
  rw [List.length_append] at lA
  have eC : (e == 0) = false := by simp [he]
  have sC : (e != 0) = true := by simp [he]
  refine Fn_of_W eok Try.func11 rfl rfl (Nat.le_of_ble_eq_true rfl) ?_
  have nS := And.intro hA (And.intro eA (And.intro sA (And.intro hB (And.intro hC (And.intro eC sC)))))
  repeat' (first
   | ((with_reducible refine sg ?_); first
    | with_reducible rfl
    | with_reducible refine andT ?_ ?_
    | with_reducible exact Nat.beq_refl _
    | with_reducible exact fitsI_u8 _
    | ((with_reducible refine decide_eq_true ?_); first | omega | (simp only [SZl, nS]; omega))
    | decide
    | (simp [SZl, slc, allOneD, D.one, allOne, AV.one, nS]; done)
    | (simp [SZl, nS]; omega))
   | ((with_reducible refine gWl ?_); first
    | (refine Wl_isMv rfl ?_; refine Xmv eok rfl rfl rfl rfl ?_)
    | refine XaoL [63, 80, 98] eok rfl rfl rfl rfl rfl rfl ?_ ?_ (hx := by first | (simp only [NSl, NHl, Nat.reduceAdd, Int.reduceAdd, Int.reduceSub, Int.reduceMul, Int.reduceToNat, nS, takeD3, takeT3, takeL3]; rfl) | rfl)
    | refine Xq eok rfl rfl rfl rfl ?_ ?_ (hx := by first | (simp only [NSl, NHl, Nat.reduceAdd, Int.reduceAdd, Int.reduceSub, Int.reduceMul, Int.reduceToNat, nS, takeD3, takeT3, takeL3]; rfl) | rfl)
    | refine Xn [0, 2, 3, 4, 5, 6, 7, 8, 9, 10, 11, 12, 13, 14, 15, 16, 17, 20, 106, 137] rfl ?_
    | refine Xfz 65 rfl rfl rfl (by first | rfl | simp [sln]) ?_
    | refine Xfz 82 rfl rfl rfl (by first | rfl | simp [sln]) ?_
    | refine Xfz 100 rfl rfl rfl (by first | rfl | simp [sln]) ?_
    | refine XF (Take_fn b (by omega)) rfl rfl rfl rfl ?_ (hr := by first | (simp only [NSl, NHl, Nat.reduceAdd, Int.reduceAdd, Int.reduceSub, Int.reduceMul, Int.reduceToNat, nS, takeD3, takeT3, takeL3]; rfl) | rfl)
    | refine XF (TakeText_fn b (by omega)) rfl rfl rfl rfl ?_ (hr := by first | (simp only [NSl, NHl, Nat.reduceAdd, Int.reduceAdd, Int.reduceSub, Int.reduceMul, Int.reduceToNat, nS, takeD3, takeT3, takeL3]; rfl) | rfl)
    | refine XF (TakeList_fn b (by omega)) rfl rfl rfl rfl ?_ (hr := by first | (simp only [NSl, NHl, Nat.reduceAdd, Int.reduceAdd, Int.reduceSub, Int.reduceMul, Int.reduceToNat, nS, takeD3, takeT3, takeL3]; rfl) | rfl)
    | refine XF (put_fn _) rfl rfl rfl rfl ?_ (hr := by first | (simp only [NSl, NHl, Nat.reduceAdd, Int.reduceAdd, Int.reduceSub, Int.reduceMul, Int.reduceToNat, nS, takeD3, takeT3, takeL3]; rfl) | rfl)
    | refine XF (text_fn _) rfl rfl rfl rfl ?_ (hr := by first | (simp only [NSl, NHl, Nat.reduceAdd, Int.reduceAdd, Int.reduceSub, Int.reduceMul, Int.reduceToNat, nS, takeD3, takeT3, takeL3]; rfl) | rfl)
    | refine XF (list_fn _) rfl rfl rfl rfl ?_ (hr := by first | (simp only [NSl, NHl, Nat.reduceAdd, Int.reduceAdd, Int.reduceSub, Int.reduceMul, Int.reduceToNat, nS, takeD3, takeT3, takeL3]; rfl) | rfl)
    | refine XF (same_fn _ _) rfl rfl rfl rfl ?_ (hr := by first | (simp only [NSl, NHl, Nat.reduceAdd, Int.reduceAdd, Int.reduceSub, Int.reduceMul, Int.reduceToNat, nS, takeD3, takeT3, takeL3]; rfl) | rfl)
    | refine XF (wakes_fn) rfl rfl rfl rfl ?_ (hr := by first | (simp only [NSl, NHl, Nat.reduceAdd, Int.reduceAdd, Int.reduceSub, Int.reduceMul, Int.reduceToNat, nS, takeD3, takeT3, takeL3]; rfl) | rfl)
    | refine Xw eok rfl rfl rfl rfl ?_ ?_ (hx := by first | (simp only [NSl, NHl, Nat.reduceAdd, Int.reduceAdd, Int.reduceSub, Int.reduceMul, Int.reduceToNat, nS, takeD3, takeT3, takeL3]; rfl) | rfl)
    | refine Xs rfl rfl rfl ?_
    | (refine Xsplit rfl rfl (fun hc => ?_) (fun hc => ?_) <;> (try simp only [decide_eq_true_eq, decide_eq_false_iff_not, Bool.not_eq_true', Bool.not_eq_false', beq_iff_eq, beq_eq_false_iff_ne, bne_iff_ne, bne_eq_false_iff_eq, ne_eq, Int.not_lt, Int.not_le, ge_iff_le, gt_iff_lt] at hc) <;> (try (exfalso; omega))))
   | refine W_seq ?_
   | refine W_region ?_
   | refine W_skip ?_
   | refine W_ret ?_
   | refine W_block ?_
   | refine W_exit ?_
   | refine W_cond_t rfl ?_
   | refine W_cond_f rfl ?_
   | (refine W_cond rfl (fun hc => ?_) (fun hc => ?_) <;> (try simp only [decide_eq_true_eq, decide_eq_false_iff_not, Bool.not_eq_true', Bool.not_eq_false', beq_iff_eq, beq_eq_false_iff_ne, bne_iff_ne, bne_eq_false_iff_eq, ne_eq, Int.not_lt, Int.not_le, ge_iff_le, gt_iff_lt] at hc) <;> (try (exfalso; omega))))
  all_goals refine ⟨_, _, rfl, rfl, ?_⟩; simp [Frz_tup, Frz_ag, Frzs_cons, Frzs_nil, Frz_d, Frz_e0, Frz_sl, sln, isSl, slOk]
set_option maxHeartbeats 4000000 in
theorem only100 (b : List UInt8) (hb : ¬ b.length > 600) (hA : takeS b = (0, [], 11)) (s q : List UInt8) (hB : takeTextS b = (s, q, 0)) (hbB : b = UInt8.ofNat s.length :: s ++ q) (hs : s.length ≤ 255) (l : List Int) (r : List UInt8) (hC : takeListS b = (l, r, 0)) (hbC : b = UInt8.ofNat l.length :: numsB l ++ r) (hl : l.length ≤ 255) (hf : l.all fits = true) : Go.Gar.Fn Try.prog 11 [.by b] (.b true) := by
  have eB : textS s = (UInt8.ofNat s.length :: s, 0) := by unfold textS; rw [if_neg (by omega)]
  have sB : ((UInt8.ofNat s.length :: (s ++ q)) == b) = true := by rw [← List.cons_append, ← hbB]; exact beq_self_eq_true b
  have lB := congrArg List.length hbB
  rw [List.length_append, List.length_cons] at lB
  have eC : listS l = (UInt8.ofNat l.length :: numsB l, 0) := by unfold listS; rw [if_neg (by omega), hf]; rfl
  have sC : ((UInt8.ofNat l.length :: (numsB l ++ r)) == b) = true := by rw [← List.cons_append, ← hbC]; exact beq_self_eq_true b
  have lC := congrArg List.length hbC
  rw [List.length_append, List.length_cons] at lC
  refine Fn_of_W eok Try.func11 rfl rfl (Nat.le_of_ble_eq_true rfl) ?_
  have nS := And.intro hA (And.intro hB (And.intro eB (And.intro sB (And.intro hC (And.intro eC sC)))))
  repeat' (first
   | ((with_reducible refine sg ?_); first
    | with_reducible rfl
    | with_reducible refine andT ?_ ?_
    | with_reducible exact Nat.beq_refl _
    | with_reducible exact fitsI_u8 _
    | ((with_reducible refine decide_eq_true ?_); first | omega | (simp only [SZl, nS]; omega))
    | decide
    | (simp [SZl, slc, allOneD, D.one, allOne, AV.one, nS]; done)
    | (simp [SZl, nS]; omega))
   | ((with_reducible refine gWl ?_); first
    | (refine Wl_isMv rfl ?_; refine Xmv eok rfl rfl rfl rfl ?_)
    | refine XaoL [63, 80, 98] eok rfl rfl rfl rfl rfl rfl ?_ ?_ (hx := by first | (simp only [NSl, NHl, Nat.reduceAdd, Int.reduceAdd, Int.reduceSub, Int.reduceMul, Int.reduceToNat, nS, takeD3, takeT3, takeL3]; rfl) | rfl)
    | refine Xq eok rfl rfl rfl rfl ?_ ?_ (hx := by first | (simp only [NSl, NHl, Nat.reduceAdd, Int.reduceAdd, Int.reduceSub, Int.reduceMul, Int.reduceToNat, nS, takeD3, takeT3, takeL3]; rfl) | rfl)
    | refine Xn [0, 2, 3, 4, 5, 6, 7, 8, 9, 10, 11, 12, 13, 14, 15, 16, 17, 20, 106, 137] rfl ?_
    | refine Xfz 65 rfl rfl rfl (by first | rfl | simp [sln]) ?_
    | refine Xfz 82 rfl rfl rfl (by first | rfl | simp [sln]) ?_
    | refine Xfz 100 rfl rfl rfl (by first | rfl | simp [sln]) ?_
    | refine XF (Take_fn b (by omega)) rfl rfl rfl rfl ?_ (hr := by first | (simp only [NSl, NHl, Nat.reduceAdd, Int.reduceAdd, Int.reduceSub, Int.reduceMul, Int.reduceToNat, nS, takeD3, takeT3, takeL3]; rfl) | rfl)
    | refine XF (TakeText_fn b (by omega)) rfl rfl rfl rfl ?_ (hr := by first | (simp only [NSl, NHl, Nat.reduceAdd, Int.reduceAdd, Int.reduceSub, Int.reduceMul, Int.reduceToNat, nS, takeD3, takeT3, takeL3]; rfl) | rfl)
    | refine XF (TakeList_fn b (by omega)) rfl rfl rfl rfl ?_ (hr := by first | (simp only [NSl, NHl, Nat.reduceAdd, Int.reduceAdd, Int.reduceSub, Int.reduceMul, Int.reduceToNat, nS, takeD3, takeT3, takeL3]; rfl) | rfl)
    | refine XF (put_fn _) rfl rfl rfl rfl ?_ (hr := by first | (simp only [NSl, NHl, Nat.reduceAdd, Int.reduceAdd, Int.reduceSub, Int.reduceMul, Int.reduceToNat, nS, takeD3, takeT3, takeL3]; rfl) | rfl)
    | refine XF (text_fn _) rfl rfl rfl rfl ?_ (hr := by first | (simp only [NSl, NHl, Nat.reduceAdd, Int.reduceAdd, Int.reduceSub, Int.reduceMul, Int.reduceToNat, nS, takeD3, takeT3, takeL3]; rfl) | rfl)
    | refine XF (list_fn _) rfl rfl rfl rfl ?_ (hr := by first | (simp only [NSl, NHl, Nat.reduceAdd, Int.reduceAdd, Int.reduceSub, Int.reduceMul, Int.reduceToNat, nS, takeD3, takeT3, takeL3]; rfl) | rfl)
    | refine XF (same_fn _ _) rfl rfl rfl rfl ?_ (hr := by first | (simp only [NSl, NHl, Nat.reduceAdd, Int.reduceAdd, Int.reduceSub, Int.reduceMul, Int.reduceToNat, nS, takeD3, takeT3, takeL3]; rfl) | rfl)
    | refine XF (wakes_fn) rfl rfl rfl rfl ?_ (hr := by first | (simp only [NSl, NHl, Nat.reduceAdd, Int.reduceAdd, Int.reduceSub, Int.reduceMul, Int.reduceToNat, nS, takeD3, takeT3, takeL3]; rfl) | rfl)
    | refine Xw eok rfl rfl rfl rfl ?_ ?_ (hx := by first | (simp only [NSl, NHl, Nat.reduceAdd, Int.reduceAdd, Int.reduceSub, Int.reduceMul, Int.reduceToNat, nS, takeD3, takeT3, takeL3]; rfl) | rfl)
    | refine Xs rfl rfl rfl ?_
    | (refine Xsplit rfl rfl (fun hc => ?_) (fun hc => ?_) <;> (try simp only [decide_eq_true_eq, decide_eq_false_iff_not, Bool.not_eq_true', Bool.not_eq_false', beq_iff_eq, beq_eq_false_iff_ne, bne_iff_ne, bne_eq_false_iff_eq, ne_eq, Int.not_lt, Int.not_le, ge_iff_le, gt_iff_lt] at hc) <;> (try (exfalso; omega))))
   | refine W_seq ?_
   | refine W_region ?_
   | refine W_skip ?_
   | refine W_ret ?_
   | refine W_block ?_
   | refine W_exit ?_
   | refine W_cond_t rfl ?_
   | refine W_cond_f rfl ?_
   | (refine W_cond rfl (fun hc => ?_) (fun hc => ?_) <;> (try simp only [decide_eq_true_eq, decide_eq_false_iff_not, Bool.not_eq_true', Bool.not_eq_false', beq_iff_eq, beq_eq_false_iff_ne, bne_iff_ne, bne_eq_false_iff_eq, ne_eq, Int.not_lt, Int.not_le, ge_iff_le, gt_iff_lt] at hc) <;> (try (exfalso; omega))))
  all_goals refine ⟨_, _, rfl, rfl, ?_⟩; simp [Frz_tup, Frz_ag, Frzs_cons, Frzs_nil, Frz_d, Frz_e0, Frz_sl, sln, isSl, slOk]
set_option maxHeartbeats 4000000 in
theorem only101 (b : List UInt8) (hb : ¬ b.length > 600) (hA : takeS b = (0, [], 11)) (s q : List UInt8) (hB : takeTextS b = (s, q, 0)) (hbB : b = UInt8.ofNat s.length :: s ++ q) (hs : s.length ≤ 255) (e : Int) (hC : takeListS b = ([], [], e)) (he : e ≠ 0) : Go.Gar.Fn Try.prog 11 [.by b] (.b true) := by
  have eB : textS s = (UInt8.ofNat s.length :: s, 0) := by unfold textS; rw [if_neg (by omega)]
  have sB : ((UInt8.ofNat s.length :: (s ++ q)) == b) = true := by rw [← List.cons_append, ← hbB]; exact beq_self_eq_true b
  have lB := congrArg List.length hbB
  rw [List.length_append, List.length_cons] at lB
  have eC : (e == 0) = false := by simp [he]
  have sC : (e != 0) = true := by simp [he]
  refine Fn_of_W eok Try.func11 rfl rfl (Nat.le_of_ble_eq_true rfl) ?_
  have nS := And.intro hA (And.intro hB (And.intro eB (And.intro sB (And.intro hC (And.intro eC sC)))))
  repeat' (first
   | ((with_reducible refine sg ?_); first
    | with_reducible rfl
    | with_reducible refine andT ?_ ?_
    | with_reducible exact Nat.beq_refl _
    | with_reducible exact fitsI_u8 _
    | ((with_reducible refine decide_eq_true ?_); first | omega | (simp only [SZl, nS]; omega))
    | decide
    | (simp [SZl, slc, allOneD, D.one, allOne, AV.one, nS]; done)
    | (simp [SZl, nS]; omega))
   | ((with_reducible refine gWl ?_); first
    | (refine Wl_isMv rfl ?_; refine Xmv eok rfl rfl rfl rfl ?_)
    | refine XaoL [63, 80, 98] eok rfl rfl rfl rfl rfl rfl ?_ ?_ (hx := by first | (simp only [NSl, NHl, Nat.reduceAdd, Int.reduceAdd, Int.reduceSub, Int.reduceMul, Int.reduceToNat, nS, takeD3, takeT3, takeL3]; rfl) | rfl)
    | refine Xq eok rfl rfl rfl rfl ?_ ?_ (hx := by first | (simp only [NSl, NHl, Nat.reduceAdd, Int.reduceAdd, Int.reduceSub, Int.reduceMul, Int.reduceToNat, nS, takeD3, takeT3, takeL3]; rfl) | rfl)
    | refine Xn [0, 2, 3, 4, 5, 6, 7, 8, 9, 10, 11, 12, 13, 14, 15, 16, 17, 20, 106, 137] rfl ?_
    | refine Xfz 65 rfl rfl rfl (by first | rfl | simp [sln]) ?_
    | refine Xfz 82 rfl rfl rfl (by first | rfl | simp [sln]) ?_
    | refine Xfz 100 rfl rfl rfl (by first | rfl | simp [sln]) ?_
    | refine XF (Take_fn b (by omega)) rfl rfl rfl rfl ?_ (hr := by first | (simp only [NSl, NHl, Nat.reduceAdd, Int.reduceAdd, Int.reduceSub, Int.reduceMul, Int.reduceToNat, nS, takeD3, takeT3, takeL3]; rfl) | rfl)
    | refine XF (TakeText_fn b (by omega)) rfl rfl rfl rfl ?_ (hr := by first | (simp only [NSl, NHl, Nat.reduceAdd, Int.reduceAdd, Int.reduceSub, Int.reduceMul, Int.reduceToNat, nS, takeD3, takeT3, takeL3]; rfl) | rfl)
    | refine XF (TakeList_fn b (by omega)) rfl rfl rfl rfl ?_ (hr := by first | (simp only [NSl, NHl, Nat.reduceAdd, Int.reduceAdd, Int.reduceSub, Int.reduceMul, Int.reduceToNat, nS, takeD3, takeT3, takeL3]; rfl) | rfl)
    | refine XF (put_fn _) rfl rfl rfl rfl ?_ (hr := by first | (simp only [NSl, NHl, Nat.reduceAdd, Int.reduceAdd, Int.reduceSub, Int.reduceMul, Int.reduceToNat, nS, takeD3, takeT3, takeL3]; rfl) | rfl)
    | refine XF (text_fn _) rfl rfl rfl rfl ?_ (hr := by first | (simp only [NSl, NHl, Nat.reduceAdd, Int.reduceAdd, Int.reduceSub, Int.reduceMul, Int.reduceToNat, nS, takeD3, takeT3, takeL3]; rfl) | rfl)
    | refine XF (list_fn _) rfl rfl rfl rfl ?_ (hr := by first | (simp only [NSl, NHl, Nat.reduceAdd, Int.reduceAdd, Int.reduceSub, Int.reduceMul, Int.reduceToNat, nS, takeD3, takeT3, takeL3]; rfl) | rfl)
    | refine XF (same_fn _ _) rfl rfl rfl rfl ?_ (hr := by first | (simp only [NSl, NHl, Nat.reduceAdd, Int.reduceAdd, Int.reduceSub, Int.reduceMul, Int.reduceToNat, nS, takeD3, takeT3, takeL3]; rfl) | rfl)
    | refine XF (wakes_fn) rfl rfl rfl rfl ?_ (hr := by first | (simp only [NSl, NHl, Nat.reduceAdd, Int.reduceAdd, Int.reduceSub, Int.reduceMul, Int.reduceToNat, nS, takeD3, takeT3, takeL3]; rfl) | rfl)
    | refine Xw eok rfl rfl rfl rfl ?_ ?_ (hx := by first | (simp only [NSl, NHl, Nat.reduceAdd, Int.reduceAdd, Int.reduceSub, Int.reduceMul, Int.reduceToNat, nS, takeD3, takeT3, takeL3]; rfl) | rfl)
    | refine Xs rfl rfl rfl ?_
    | (refine Xsplit rfl rfl (fun hc => ?_) (fun hc => ?_) <;> (try simp only [decide_eq_true_eq, decide_eq_false_iff_not, Bool.not_eq_true', Bool.not_eq_false', beq_iff_eq, beq_eq_false_iff_ne, bne_iff_ne, bne_eq_false_iff_eq, ne_eq, Int.not_lt, Int.not_le, ge_iff_le, gt_iff_lt] at hc) <;> (try (exfalso; omega))))
   | refine W_seq ?_
   | refine W_region ?_
   | refine W_skip ?_
   | refine W_ret ?_
   | refine W_block ?_
   | refine W_exit ?_
   | refine W_cond_t rfl ?_
   | refine W_cond_f rfl ?_
   | (refine W_cond rfl (fun hc => ?_) (fun hc => ?_) <;> (try simp only [decide_eq_true_eq, decide_eq_false_iff_not, Bool.not_eq_true', Bool.not_eq_false', beq_iff_eq, beq_eq_false_iff_ne, bne_iff_ne, bne_eq_false_iff_eq, ne_eq, Int.not_lt, Int.not_le, ge_iff_le, gt_iff_lt] at hc) <;> (try (exfalso; omega))))
  all_goals refine ⟨_, _, rfl, rfl, ?_⟩; simp [Frz_tup, Frz_ag, Frzs_cons, Frzs_nil, Frz_d, Frz_e0, Frz_sl, sln, isSl, slOk]
set_option maxHeartbeats 4000000 in
theorem only110 (b : List UInt8) (hb : ¬ b.length > 600) (hA : takeS b = (0, [], 11)) (hB : takeTextS b = ([], [], 11)) (l : List Int) (r : List UInt8) (hC : takeListS b = (l, r, 0)) (hbC : b = UInt8.ofNat l.length :: numsB l ++ r) (hl : l.length ≤ 255) (hf : l.all fits = true) : Go.Gar.Fn Try.prog 11 [.by b] (.b true) := by
  have eC : listS l = (UInt8.ofNat l.length :: numsB l, 0) := by unfold listS; rw [if_neg (by omega), hf]; rfl
  have sC : ((UInt8.ofNat l.length :: (numsB l ++ r)) == b) = true := by rw [← List.cons_append, ← hbC]; exact beq_self_eq_true b
  have lC := congrArg List.length hbC
  rw [List.length_append, List.length_cons] at lC
  refine Fn_of_W eok Try.func11 rfl rfl (Nat.le_of_ble_eq_true rfl) ?_
  have nS := And.intro hA (And.intro hB (And.intro hC (And.intro eC sC)))
  repeat' (first
   | ((with_reducible refine sg ?_); first
    | with_reducible rfl
    | with_reducible refine andT ?_ ?_
    | with_reducible exact Nat.beq_refl _
    | with_reducible exact fitsI_u8 _
    | ((with_reducible refine decide_eq_true ?_); first | omega | (simp only [SZl, nS]; omega))
    | decide
    | (simp [SZl, slc, allOneD, D.one, allOne, AV.one, nS]; done)
    | (simp [SZl, nS]; omega))
   | ((with_reducible refine gWl ?_); first
    | (refine Wl_isMv rfl ?_; refine Xmv eok rfl rfl rfl rfl ?_)
    | refine XaoL [63, 80, 98] eok rfl rfl rfl rfl rfl rfl ?_ ?_ (hx := by first | (simp only [NSl, NHl, Nat.reduceAdd, Int.reduceAdd, Int.reduceSub, Int.reduceMul, Int.reduceToNat, nS, takeD3, takeT3, takeL3]; rfl) | rfl)
    | refine Xq eok rfl rfl rfl rfl ?_ ?_ (hx := by first | (simp only [NSl, NHl, Nat.reduceAdd, Int.reduceAdd, Int.reduceSub, Int.reduceMul, Int.reduceToNat, nS, takeD3, takeT3, takeL3]; rfl) | rfl)
    | refine Xn [0, 2, 3, 4, 5, 6, 7, 8, 9, 10, 11, 12, 13, 14, 15, 16, 17, 20, 106, 137] rfl ?_
    | refine Xfz 65 rfl rfl rfl (by first | rfl | simp [sln]) ?_
    | refine Xfz 82 rfl rfl rfl (by first | rfl | simp [sln]) ?_
    | refine Xfz 100 rfl rfl rfl (by first | rfl | simp [sln]) ?_
    | refine XF (Take_fn b (by omega)) rfl rfl rfl rfl ?_ (hr := by first | (simp only [NSl, NHl, Nat.reduceAdd, Int.reduceAdd, Int.reduceSub, Int.reduceMul, Int.reduceToNat, nS, takeD3, takeT3, takeL3]; rfl) | rfl)
    | refine XF (TakeText_fn b (by omega)) rfl rfl rfl rfl ?_ (hr := by first | (simp only [NSl, NHl, Nat.reduceAdd, Int.reduceAdd, Int.reduceSub, Int.reduceMul, Int.reduceToNat, nS, takeD3, takeT3, takeL3]; rfl) | rfl)
    | refine XF (TakeList_fn b (by omega)) rfl rfl rfl rfl ?_ (hr := by first | (simp only [NSl, NHl, Nat.reduceAdd, Int.reduceAdd, Int.reduceSub, Int.reduceMul, Int.reduceToNat, nS, takeD3, takeT3, takeL3]; rfl) | rfl)
    | refine XF (put_fn _) rfl rfl rfl rfl ?_ (hr := by first | (simp only [NSl, NHl, Nat.reduceAdd, Int.reduceAdd, Int.reduceSub, Int.reduceMul, Int.reduceToNat, nS, takeD3, takeT3, takeL3]; rfl) | rfl)
    | refine XF (text_fn _) rfl rfl rfl rfl ?_ (hr := by first | (simp only [NSl, NHl, Nat.reduceAdd, Int.reduceAdd, Int.reduceSub, Int.reduceMul, Int.reduceToNat, nS, takeD3, takeT3, takeL3]; rfl) | rfl)
    | refine XF (list_fn _) rfl rfl rfl rfl ?_ (hr := by first | (simp only [NSl, NHl, Nat.reduceAdd, Int.reduceAdd, Int.reduceSub, Int.reduceMul, Int.reduceToNat, nS, takeD3, takeT3, takeL3]; rfl) | rfl)
    | refine XF (same_fn _ _) rfl rfl rfl rfl ?_ (hr := by first | (simp only [NSl, NHl, Nat.reduceAdd, Int.reduceAdd, Int.reduceSub, Int.reduceMul, Int.reduceToNat, nS, takeD3, takeT3, takeL3]; rfl) | rfl)
    | refine XF (wakes_fn) rfl rfl rfl rfl ?_ (hr := by first | (simp only [NSl, NHl, Nat.reduceAdd, Int.reduceAdd, Int.reduceSub, Int.reduceMul, Int.reduceToNat, nS, takeD3, takeT3, takeL3]; rfl) | rfl)
    | refine Xw eok rfl rfl rfl rfl ?_ ?_ (hx := by first | (simp only [NSl, NHl, Nat.reduceAdd, Int.reduceAdd, Int.reduceSub, Int.reduceMul, Int.reduceToNat, nS, takeD3, takeT3, takeL3]; rfl) | rfl)
    | refine Xs rfl rfl rfl ?_
    | (refine Xsplit rfl rfl (fun hc => ?_) (fun hc => ?_) <;> (try simp only [decide_eq_true_eq, decide_eq_false_iff_not, Bool.not_eq_true', Bool.not_eq_false', beq_iff_eq, beq_eq_false_iff_ne, bne_iff_ne, bne_eq_false_iff_eq, ne_eq, Int.not_lt, Int.not_le, ge_iff_le, gt_iff_lt] at hc) <;> (try (exfalso; omega))))
   | refine W_seq ?_
   | refine W_region ?_
   | refine W_skip ?_
   | refine W_ret ?_
   | refine W_block ?_
   | refine W_exit ?_
   | refine W_cond_t rfl ?_
   | refine W_cond_f rfl ?_
   | (refine W_cond rfl (fun hc => ?_) (fun hc => ?_) <;> (try simp only [decide_eq_true_eq, decide_eq_false_iff_not, Bool.not_eq_true', Bool.not_eq_false', beq_iff_eq, beq_eq_false_iff_ne, bne_iff_ne, bne_eq_false_iff_eq, ne_eq, Int.not_lt, Int.not_le, ge_iff_le, gt_iff_lt] at hc) <;> (try (exfalso; omega))))
  all_goals refine ⟨_, _, rfl, rfl, ?_⟩; simp [Frz_tup, Frz_ag, Frzs_cons, Frzs_nil, Frz_d, Frz_e0, Frz_sl, sln, isSl, slOk]
set_option maxHeartbeats 4000000 in
theorem only111 (b : List UInt8) (hb : ¬ b.length > 600) (hA : takeS b = (0, [], 11)) (hB : takeTextS b = ([], [], 11)) (e : Int) (hC : takeListS b = ([], [], e)) (he : e ≠ 0) : Go.Gar.Fn Try.prog 11 [.by b] (.b true) := by
  have eC : (e == 0) = false := by simp [he]
  have sC : (e != 0) = true := by simp [he]
  refine Fn_of_W eok Try.func11 rfl rfl (Nat.le_of_ble_eq_true rfl) ?_
  have nS := And.intro hA (And.intro hB (And.intro hC (And.intro eC sC)))
  repeat' (first
   | ((with_reducible refine sg ?_); first
    | with_reducible rfl
    | with_reducible refine andT ?_ ?_
    | with_reducible exact Nat.beq_refl _
    | with_reducible exact fitsI_u8 _
    | ((with_reducible refine decide_eq_true ?_); first | omega | (simp only [SZl, nS]; omega))
    | decide
    | (simp [SZl, slc, allOneD, D.one, allOne, AV.one, nS]; done)
    | (simp [SZl, nS]; omega))
   | ((with_reducible refine gWl ?_); first
    | (refine Wl_isMv rfl ?_; refine Xmv eok rfl rfl rfl rfl ?_)
    | refine XaoL [63, 80, 98] eok rfl rfl rfl rfl rfl rfl ?_ ?_ (hx := by first | (simp only [NSl, NHl, Nat.reduceAdd, Int.reduceAdd, Int.reduceSub, Int.reduceMul, Int.reduceToNat, nS, takeD3, takeT3, takeL3]; rfl) | rfl)
    | refine Xq eok rfl rfl rfl rfl ?_ ?_ (hx := by first | (simp only [NSl, NHl, Nat.reduceAdd, Int.reduceAdd, Int.reduceSub, Int.reduceMul, Int.reduceToNat, nS, takeD3, takeT3, takeL3]; rfl) | rfl)
    | refine Xn [0, 2, 3, 4, 5, 6, 7, 8, 9, 10, 11, 12, 13, 14, 15, 16, 17, 20, 106, 137] rfl ?_
    | refine Xfz 65 rfl rfl rfl (by first | rfl | simp [sln]) ?_
    | refine Xfz 82 rfl rfl rfl (by first | rfl | simp [sln]) ?_
    | refine Xfz 100 rfl rfl rfl (by first | rfl | simp [sln]) ?_
    | refine XF (Take_fn b (by omega)) rfl rfl rfl rfl ?_ (hr := by first | (simp only [NSl, NHl, Nat.reduceAdd, Int.reduceAdd, Int.reduceSub, Int.reduceMul, Int.reduceToNat, nS, takeD3, takeT3, takeL3]; rfl) | rfl)
    | refine XF (TakeText_fn b (by omega)) rfl rfl rfl rfl ?_ (hr := by first | (simp only [NSl, NHl, Nat.reduceAdd, Int.reduceAdd, Int.reduceSub, Int.reduceMul, Int.reduceToNat, nS, takeD3, takeT3, takeL3]; rfl) | rfl)
    | refine XF (TakeList_fn b (by omega)) rfl rfl rfl rfl ?_ (hr := by first | (simp only [NSl, NHl, Nat.reduceAdd, Int.reduceAdd, Int.reduceSub, Int.reduceMul, Int.reduceToNat, nS, takeD3, takeT3, takeL3]; rfl) | rfl)
    | refine XF (put_fn _) rfl rfl rfl rfl ?_ (hr := by first | (simp only [NSl, NHl, Nat.reduceAdd, Int.reduceAdd, Int.reduceSub, Int.reduceMul, Int.reduceToNat, nS, takeD3, takeT3, takeL3]; rfl) | rfl)
    | refine XF (text_fn _) rfl rfl rfl rfl ?_ (hr := by first | (simp only [NSl, NHl, Nat.reduceAdd, Int.reduceAdd, Int.reduceSub, Int.reduceMul, Int.reduceToNat, nS, takeD3, takeT3, takeL3]; rfl) | rfl)
    | refine XF (list_fn _) rfl rfl rfl rfl ?_ (hr := by first | (simp only [NSl, NHl, Nat.reduceAdd, Int.reduceAdd, Int.reduceSub, Int.reduceMul, Int.reduceToNat, nS, takeD3, takeT3, takeL3]; rfl) | rfl)
    | refine XF (same_fn _ _) rfl rfl rfl rfl ?_ (hr := by first | (simp only [NSl, NHl, Nat.reduceAdd, Int.reduceAdd, Int.reduceSub, Int.reduceMul, Int.reduceToNat, nS, takeD3, takeT3, takeL3]; rfl) | rfl)
    | refine XF (wakes_fn) rfl rfl rfl rfl ?_ (hr := by first | (simp only [NSl, NHl, Nat.reduceAdd, Int.reduceAdd, Int.reduceSub, Int.reduceMul, Int.reduceToNat, nS, takeD3, takeT3, takeL3]; rfl) | rfl)
    | refine Xw eok rfl rfl rfl rfl ?_ ?_ (hx := by first | (simp only [NSl, NHl, Nat.reduceAdd, Int.reduceAdd, Int.reduceSub, Int.reduceMul, Int.reduceToNat, nS, takeD3, takeT3, takeL3]; rfl) | rfl)
    | refine Xs rfl rfl rfl ?_
    | (refine Xsplit rfl rfl (fun hc => ?_) (fun hc => ?_) <;> (try simp only [decide_eq_true_eq, decide_eq_false_iff_not, Bool.not_eq_true', Bool.not_eq_false', beq_iff_eq, beq_eq_false_iff_ne, bne_iff_ne, bne_eq_false_iff_eq, ne_eq, Int.not_lt, Int.not_le, ge_iff_le, gt_iff_lt] at hc) <;> (try (exfalso; omega))))
   | refine W_seq ?_
   | refine W_region ?_
   | refine W_skip ?_
   | refine W_ret ?_
   | refine W_block ?_
   | refine W_exit ?_
   | refine W_cond_t rfl ?_
   | refine W_cond_f rfl ?_
   | (refine W_cond rfl (fun hc => ?_) (fun hc => ?_) <;> (try simp only [decide_eq_true_eq, decide_eq_false_iff_not, Bool.not_eq_true', Bool.not_eq_false', beq_iff_eq, beq_eq_false_iff_ne, bne_iff_ne, bne_eq_false_iff_eq, ne_eq, Int.not_lt, Int.not_le, ge_iff_le, gt_iff_lt] at hc) <;> (try (exfalso; omega))))
  all_goals refine ⟨_, _, rfl, rfl, ?_⟩; simp [Frz_tup, Frz_ag, Frzs_cons, Frzs_nil, Frz_d, Frz_e0, Frz_sl, sln, isSl, slOk]
set_option maxHeartbeats 4000000 in
theorem only200 (b : List UInt8) (hb : ¬ b.length > 600) (hA : takeS b = (0, [], 12)) (s q : List UInt8) (hB : takeTextS b = (s, q, 0)) (hbB : b = UInt8.ofNat s.length :: s ++ q) (hs : s.length ≤ 255) (l : List Int) (r : List UInt8) (hC : takeListS b = (l, r, 0)) (hbC : b = UInt8.ofNat l.length :: numsB l ++ r) (hl : l.length ≤ 255) (hf : l.all fits = true) : Go.Gar.Fn Try.prog 11 [.by b] (.b true) := by
  have eB : textS s = (UInt8.ofNat s.length :: s, 0) := by unfold textS; rw [if_neg (by omega)]
  have sB : ((UInt8.ofNat s.length :: (s ++ q)) == b) = true := by rw [← List.cons_append, ← hbB]; exact beq_self_eq_true b
  have lB := congrArg List.length hbB
  rw [List.length_append, List.length_cons] at lB
  have eC : listS l = (UInt8.ofNat l.length :: numsB l, 0) := by unfold listS; rw [if_neg (by omega), hf]; rfl
  have sC : ((UInt8.ofNat l.length :: (numsB l ++ r)) == b) = true := by rw [← List.cons_append, ← hbC]; exact beq_self_eq_true b
  have lC := congrArg List.length hbC
  rw [List.length_append, List.length_cons] at lC
  refine Fn_of_W eok Try.func11 rfl rfl (Nat.le_of_ble_eq_true rfl) ?_
  have nS := And.intro hA (And.intro hB (And.intro eB (And.intro sB (And.intro hC (And.intro eC sC)))))
  repeat' (first
   | ((with_reducible refine sg ?_); first
    | with_reducible rfl
    | with_reducible refine andT ?_ ?_
    | with_reducible exact Nat.beq_refl _
    | with_reducible exact fitsI_u8 _
    | ((with_reducible refine decide_eq_true ?_); first | omega | (simp only [SZl, nS]; omega))
    | decide
    | (simp [SZl, slc, allOneD, D.one, allOne, AV.one, nS]; done)
    | (simp [SZl, nS]; omega))
   | ((with_reducible refine gWl ?_); first
    | (refine Wl_isMv rfl ?_; refine Xmv eok rfl rfl rfl rfl ?_)
    | refine XaoL [63, 80, 98] eok rfl rfl rfl rfl rfl rfl ?_ ?_ (hx := by first | (simp only [NSl, NHl, Nat.reduceAdd, Int.reduceAdd, Int.reduceSub, Int.reduceMul, Int.reduceToNat, nS, takeD3, takeT3, takeL3]; rfl) | rfl)
    | refine Xq eok rfl rfl rfl rfl ?_ ?_ (hx := by first | (simp only [NSl, NHl, Nat.reduceAdd, Int.reduceAdd, Int.reduceSub, Int.reduceMul, Int.reduceToNat, nS, takeD3, takeT3, takeL3]; rfl) | rfl)
    | refine Xn [0, 2, 3, 4, 5, 6, 7, 8, 9, 10, 11, 12, 13, 14, 15, 16, 17, 20, 106, 137] rfl ?_
    | refine Xfz 65 rfl rfl rfl (by first | rfl | simp [sln]) ?_
    | refine Xfz 82 rfl rfl rfl (by first | rfl | simp [sln]) ?_
    | refine Xfz 100 rfl rfl rfl (by first | rfl | simp [sln]) ?_
    | refine XF (Take_fn b (by omega)) rfl rfl rfl rfl ?_ (hr := by first | (simp only [NSl, NHl, Nat.reduceAdd, Int.reduceAdd, Int.reduceSub, Int.reduceMul, Int.reduceToNat, nS, takeD3, takeT3, takeL3]; rfl) | rfl)
    | refine XF (TakeText_fn b (by omega)) rfl rfl rfl rfl ?_ (hr := by first | (simp only [NSl, NHl, Nat.reduceAdd, Int.reduceAdd, Int.reduceSub, Int.reduceMul, Int.reduceToNat, nS, takeD3, takeT3, takeL3]; rfl) | rfl)
    | refine XF (TakeList_fn b (by omega)) rfl rfl rfl rfl ?_ (hr := by first | (simp only [NSl, NHl, Nat.reduceAdd, Int.reduceAdd, Int.reduceSub, Int.reduceMul, Int.reduceToNat, nS, takeD3, takeT3, takeL3]; rfl) | rfl)
    | refine XF (put_fn _) rfl rfl rfl rfl ?_ (hr := by first | (simp only [NSl, NHl, Nat.reduceAdd, Int.reduceAdd, Int.reduceSub, Int.reduceMul, Int.reduceToNat, nS, takeD3, takeT3, takeL3]; rfl) | rfl)
    | refine XF (text_fn _) rfl rfl rfl rfl ?_ (hr := by first | (simp only [NSl, NHl, Nat.reduceAdd, Int.reduceAdd, Int.reduceSub, Int.reduceMul, Int.reduceToNat, nS, takeD3, takeT3, takeL3]; rfl) | rfl)
    | refine XF (list_fn _) rfl rfl rfl rfl ?_ (hr := by first | (simp only [NSl, NHl, Nat.reduceAdd, Int.reduceAdd, Int.reduceSub, Int.reduceMul, Int.reduceToNat, nS, takeD3, takeT3, takeL3]; rfl) | rfl)
    | refine XF (same_fn _ _) rfl rfl rfl rfl ?_ (hr := by first | (simp only [NSl, NHl, Nat.reduceAdd, Int.reduceAdd, Int.reduceSub, Int.reduceMul, Int.reduceToNat, nS, takeD3, takeT3, takeL3]; rfl) | rfl)
    | refine XF (wakes_fn) rfl rfl rfl rfl ?_ (hr := by first | (simp only [NSl, NHl, Nat.reduceAdd, Int.reduceAdd, Int.reduceSub, Int.reduceMul, Int.reduceToNat, nS, takeD3, takeT3, takeL3]; rfl) | rfl)
    | refine Xw eok rfl rfl rfl rfl ?_ ?_ (hx := by first | (simp only [NSl, NHl, Nat.reduceAdd, Int.reduceAdd, Int.reduceSub, Int.reduceMul, Int.reduceToNat, nS, takeD3, takeT3, takeL3]; rfl) | rfl)
    | refine Xs rfl rfl rfl ?_
    | (refine Xsplit rfl rfl (fun hc => ?_) (fun hc => ?_) <;> (try simp only [decide_eq_true_eq, decide_eq_false_iff_not, Bool.not_eq_true', Bool.not_eq_false', beq_iff_eq, beq_eq_false_iff_ne, bne_iff_ne, bne_eq_false_iff_eq, ne_eq, Int.not_lt, Int.not_le, ge_iff_le, gt_iff_lt] at hc) <;> (try (exfalso; omega))))
   | refine W_seq ?_
   | refine W_region ?_
   | refine W_skip ?_
   | refine W_ret ?_
   | refine W_block ?_
   | refine W_exit ?_
   | refine W_cond_t rfl ?_
   | refine W_cond_f rfl ?_
   | (refine W_cond rfl (fun hc => ?_) (fun hc => ?_) <;> (try simp only [decide_eq_true_eq, decide_eq_false_iff_not, Bool.not_eq_true', Bool.not_eq_false', beq_iff_eq, beq_eq_false_iff_ne, bne_iff_ne, bne_eq_false_iff_eq, ne_eq, Int.not_lt, Int.not_le, ge_iff_le, gt_iff_lt] at hc) <;> (try (exfalso; omega))))
  all_goals refine ⟨_, _, rfl, rfl, ?_⟩; simp [Frz_tup, Frz_ag, Frzs_cons, Frzs_nil, Frz_d, Frz_e0, Frz_sl, sln, isSl, slOk]
set_option maxHeartbeats 4000000 in
theorem only201 (b : List UInt8) (hb : ¬ b.length > 600) (hA : takeS b = (0, [], 12)) (s q : List UInt8) (hB : takeTextS b = (s, q, 0)) (hbB : b = UInt8.ofNat s.length :: s ++ q) (hs : s.length ≤ 255) (e : Int) (hC : takeListS b = ([], [], e)) (he : e ≠ 0) : Go.Gar.Fn Try.prog 11 [.by b] (.b true) := by
  have eB : textS s = (UInt8.ofNat s.length :: s, 0) := by unfold textS; rw [if_neg (by omega)]
  have sB : ((UInt8.ofNat s.length :: (s ++ q)) == b) = true := by rw [← List.cons_append, ← hbB]; exact beq_self_eq_true b
  have lB := congrArg List.length hbB
  rw [List.length_append, List.length_cons] at lB
  have eC : (e == 0) = false := by simp [he]
  have sC : (e != 0) = true := by simp [he]
  refine Fn_of_W eok Try.func11 rfl rfl (Nat.le_of_ble_eq_true rfl) ?_
  have nS := And.intro hA (And.intro hB (And.intro eB (And.intro sB (And.intro hC (And.intro eC sC)))))
  repeat' (first
   | ((with_reducible refine sg ?_); first
    | with_reducible rfl
    | with_reducible refine andT ?_ ?_
    | with_reducible exact Nat.beq_refl _
    | with_reducible exact fitsI_u8 _
    | ((with_reducible refine decide_eq_true ?_); first | omega | (simp only [SZl, nS]; omega))
    | decide
    | (simp [SZl, slc, allOneD, D.one, allOne, AV.one, nS]; done)
    | (simp [SZl, nS]; omega))
   | ((with_reducible refine gWl ?_); first
    | (refine Wl_isMv rfl ?_; refine Xmv eok rfl rfl rfl rfl ?_)
    | refine XaoL [63, 80, 98] eok rfl rfl rfl rfl rfl rfl ?_ ?_ (hx := by first | (simp only [NSl, NHl, Nat.reduceAdd, Int.reduceAdd, Int.reduceSub, Int.reduceMul, Int.reduceToNat, nS, takeD3, takeT3, takeL3]; rfl) | rfl)
    | refine Xq eok rfl rfl rfl rfl ?_ ?_ (hx := by first | (simp only [NSl, NHl, Nat.reduceAdd, Int.reduceAdd, Int.reduceSub, Int.reduceMul, Int.reduceToNat, nS, takeD3, takeT3, takeL3]; rfl) | rfl)
    | refine Xn [0, 2, 3, 4, 5, 6, 7, 8, 9, 10, 11, 12, 13, 14, 15, 16, 17, 20, 106, 137] rfl ?_
    | refine Xfz 65 rfl rfl rfl (by first | rfl | simp [sln]) ?_
    | refine Xfz 82 rfl rfl rfl (by first | rfl | simp [sln]) ?_
    | refine Xfz 100 rfl rfl rfl (by first | rfl | simp [sln]) ?_
    | refine XF (Take_fn b (by omega)) rfl rfl rfl rfl ?_ (hr := by first | (simp only [NSl, NHl, Nat.reduceAdd, Int.reduceAdd, Int.reduceSub, Int.reduceMul, Int.reduceToNat, nS, takeD3, takeT3, takeL3]; rfl) | rfl)
    | refine XF (TakeText_fn b (by omega)) rfl rfl rfl rfl ?_ (hr := by first | (simp only [NSl, NHl, Nat.reduceAdd, Int.reduceAdd, Int.reduceSub, Int.reduceMul, Int.reduceToNat, nS, takeD3, takeT3, takeL3]; rfl) | rfl)
    | refine XF (TakeList_fn b (by omega)) rfl rfl rfl rfl ?_ (hr := by first | (simp only [NSl, NHl, Nat.reduceAdd, Int.reduceAdd, Int.reduceSub, Int.reduceMul, Int.reduceToNat, nS, takeD3, takeT3, takeL3]; rfl) | rfl)
    | refine XF (put_fn _) rfl rfl rfl rfl ?_ (hr := by first | (simp only [NSl, NHl, Nat.reduceAdd, Int.reduceAdd, Int.reduceSub, Int.reduceMul, Int.reduceToNat, nS, takeD3, takeT3, takeL3]; rfl) | rfl)
    | refine XF (text_fn _) rfl rfl rfl rfl ?_ (hr := by first | (simp only [NSl, NHl, Nat.reduceAdd, Int.reduceAdd, Int.reduceSub, Int.reduceMul, Int.reduceToNat, nS, takeD3, takeT3, takeL3]; rfl) | rfl)
    | refine XF (list_fn _) rfl rfl rfl rfl ?_ (hr := by first | (simp only [NSl, NHl, Nat.reduceAdd, Int.reduceAdd, Int.reduceSub, Int.reduceMul, Int.reduceToNat, nS, takeD3, takeT3, takeL3]; rfl) | rfl)
    | refine XF (same_fn _ _) rfl rfl rfl rfl ?_ (hr := by first | (simp only [NSl, NHl, Nat.reduceAdd, Int.reduceAdd, Int.reduceSub, Int.reduceMul, Int.reduceToNat, nS, takeD3, takeT3, takeL3]; rfl) | rfl)
    | refine XF (wakes_fn) rfl rfl rfl rfl ?_ (hr := by first | (simp only [NSl, NHl, Nat.reduceAdd, Int.reduceAdd, Int.reduceSub, Int.reduceMul, Int.reduceToNat, nS, takeD3, takeT3, takeL3]; rfl) | rfl)
    | refine Xw eok rfl rfl rfl rfl ?_ ?_ (hx := by first | (simp only [NSl, NHl, Nat.reduceAdd, Int.reduceAdd, Int.reduceSub, Int.reduceMul, Int.reduceToNat, nS, takeD3, takeT3, takeL3]; rfl) | rfl)
    | refine Xs rfl rfl rfl ?_
    | (refine Xsplit rfl rfl (fun hc => ?_) (fun hc => ?_) <;> (try simp only [decide_eq_true_eq, decide_eq_false_iff_not, Bool.not_eq_true', Bool.not_eq_false', beq_iff_eq, beq_eq_false_iff_ne, bne_iff_ne, bne_eq_false_iff_eq, ne_eq, Int.not_lt, Int.not_le, ge_iff_le, gt_iff_lt] at hc) <;> (try (exfalso; omega))))
   | refine W_seq ?_
   | refine W_region ?_
   | refine W_skip ?_
   | refine W_ret ?_
   | refine W_block ?_
   | refine W_exit ?_
   | refine W_cond_t rfl ?_
   | refine W_cond_f rfl ?_
   | (refine W_cond rfl (fun hc => ?_) (fun hc => ?_) <;> (try simp only [decide_eq_true_eq, decide_eq_false_iff_not, Bool.not_eq_true', Bool.not_eq_false', beq_iff_eq, beq_eq_false_iff_ne, bne_iff_ne, bne_eq_false_iff_eq, ne_eq, Int.not_lt, Int.not_le, ge_iff_le, gt_iff_lt] at hc) <;> (try (exfalso; omega))))
  all_goals refine ⟨_, _, rfl, rfl, ?_⟩; simp [Frz_tup, Frz_ag, Frzs_cons, Frzs_nil, Frz_d, Frz_e0, Frz_sl, sln, isSl, slOk]
set_option maxHeartbeats 4000000 in
theorem only210 (b : List UInt8) (hb : ¬ b.length > 600) (hA : takeS b = (0, [], 12)) (hB : takeTextS b = ([], [], 11)) (l : List Int) (r : List UInt8) (hC : takeListS b = (l, r, 0)) (hbC : b = UInt8.ofNat l.length :: numsB l ++ r) (hl : l.length ≤ 255) (hf : l.all fits = true) : Go.Gar.Fn Try.prog 11 [.by b] (.b true) := by
  have eC : listS l = (UInt8.ofNat l.length :: numsB l, 0) := by unfold listS; rw [if_neg (by omega), hf]; rfl
  have sC : ((UInt8.ofNat l.length :: (numsB l ++ r)) == b) = true := by rw [← List.cons_append, ← hbC]; exact beq_self_eq_true b
  have lC := congrArg List.length hbC
  rw [List.length_append, List.length_cons] at lC
  refine Fn_of_W eok Try.func11 rfl rfl (Nat.le_of_ble_eq_true rfl) ?_
  have nS := And.intro hA (And.intro hB (And.intro hC (And.intro eC sC)))
  repeat' (first
   | ((with_reducible refine sg ?_); first
    | with_reducible rfl
    | with_reducible refine andT ?_ ?_
    | with_reducible exact Nat.beq_refl _
    | with_reducible exact fitsI_u8 _
    | ((with_reducible refine decide_eq_true ?_); first | omega | (simp only [SZl, nS]; omega))
    | decide
    | (simp [SZl, slc, allOneD, D.one, allOne, AV.one, nS]; done)
    | (simp [SZl, nS]; omega))
   | ((with_reducible refine gWl ?_); first
    | (refine Wl_isMv rfl ?_; refine Xmv eok rfl rfl rfl rfl ?_)
    | refine XaoL [63, 80, 98] eok rfl rfl rfl rfl rfl rfl ?_ ?_ (hx := by first | (simp only [NSl, NHl, Nat.reduceAdd, Int.reduceAdd, Int.reduceSub, Int.reduceMul, Int.reduceToNat, nS, takeD3, takeT3, takeL3]; rfl) | rfl)
    | refine Xq eok rfl rfl rfl rfl ?_ ?_ (hx := by first | (simp only [NSl, NHl, Nat.reduceAdd, Int.reduceAdd, Int.reduceSub, Int.reduceMul, Int.reduceToNat, nS, takeD3, takeT3, takeL3]; rfl) | rfl)
    | refine Xn [0, 2, 3, 4, 5, 6, 7, 8, 9, 10, 11, 12, 13, 14, 15, 16, 17, 20, 106, 137] rfl ?_
    | refine Xfz 65 rfl rfl rfl (by first | rfl | simp [sln]) ?_
    | refine Xfz 82 rfl rfl rfl (by first | rfl | simp [sln]) ?_
    | refine Xfz 100 rfl rfl rfl (by first | rfl | simp [sln]) ?_
    | refine XF (Take_fn b (by omega)) rfl rfl rfl rfl ?_ (hr := by first | (simp only [NSl, NHl, Nat.reduceAdd, Int.reduceAdd, Int.reduceSub, Int.reduceMul, Int.reduceToNat, nS, takeD3, takeT3, takeL3]; rfl) | rfl)
    | refine XF (TakeText_fn b (by omega)) rfl rfl rfl rfl ?_ (hr := by first | (simp only [NSl, NHl, Nat.reduceAdd, Int.reduceAdd, Int.reduceSub, Int.reduceMul, Int.reduceToNat, nS, takeD3, takeT3, takeL3]; rfl) | rfl)
    | refine XF (TakeList_fn b (by omega)) rfl rfl rfl rfl ?_ (hr := by first | (simp only [NSl, NHl, Nat.reduceAdd, Int.reduceAdd, Int.reduceSub, Int.reduceMul, Int.reduceToNat, nS, takeD3, takeT3, takeL3]; rfl) | rfl)
    | refine XF (put_fn _) rfl rfl rfl rfl ?_ (hr := by first | (simp only [NSl, NHl, Nat.reduceAdd, Int.reduceAdd, Int.reduceSub, Int.reduceMul, Int.reduceToNat, nS, takeD3, takeT3, takeL3]; rfl) | rfl)
    | refine XF (text_fn _) rfl rfl rfl rfl ?_ (hr := by first | (simp only [NSl, NHl, Nat.reduceAdd, Int.reduceAdd, Int.reduceSub, Int.reduceMul, Int.reduceToNat, nS, takeD3, takeT3, takeL3]; rfl) | rfl)
    | refine XF (list_fn _) rfl rfl rfl rfl ?_ (hr := by first | (simp only [NSl, NHl, Nat.reduceAdd, Int.reduceAdd, Int.reduceSub, Int.reduceMul, Int.reduceToNat, nS, takeD3, takeT3, takeL3]; rfl) | rfl)
    | refine XF (same_fn _ _) rfl rfl rfl rfl ?_ (hr := by first | (simp only [NSl, NHl, Nat.reduceAdd, Int.reduceAdd, Int.reduceSub, Int.reduceMul, Int.reduceToNat, nS, takeD3, takeT3, takeL3]; rfl) | rfl)
    | refine XF (wakes_fn) rfl rfl rfl rfl ?_ (hr := by first | (simp only [NSl, NHl, Nat.reduceAdd, Int.reduceAdd, Int.reduceSub, Int.reduceMul, Int.reduceToNat, nS, takeD3, takeT3, takeL3]; rfl) | rfl)
    | refine Xw eok rfl rfl rfl rfl ?_ ?_ (hx := by first | (simp only [NSl, NHl, Nat.reduceAdd, Int.reduceAdd, Int.reduceSub, Int.reduceMul, Int.reduceToNat, nS, takeD3, takeT3, takeL3]; rfl) | rfl)
    | refine Xs rfl rfl rfl ?_
    | (refine Xsplit rfl rfl (fun hc => ?_) (fun hc => ?_) <;> (try simp only [decide_eq_true_eq, decide_eq_false_iff_not, Bool.not_eq_true', Bool.not_eq_false', beq_iff_eq, beq_eq_false_iff_ne, bne_iff_ne, bne_eq_false_iff_eq, ne_eq, Int.not_lt, Int.not_le, ge_iff_le, gt_iff_lt] at hc) <;> (try (exfalso; omega))))
   | refine W_seq ?_
   | refine W_region ?_
   | refine W_skip ?_
   | refine W_ret ?_
   | refine W_block ?_
   | refine W_exit ?_
   | refine W_cond_t rfl ?_
   | refine W_cond_f rfl ?_
   | (refine W_cond rfl (fun hc => ?_) (fun hc => ?_) <;> (try simp only [decide_eq_true_eq, decide_eq_false_iff_not, Bool.not_eq_true', Bool.not_eq_false', beq_iff_eq, beq_eq_false_iff_ne, bne_iff_ne, bne_eq_false_iff_eq, ne_eq, Int.not_lt, Int.not_le, ge_iff_le, gt_iff_lt] at hc) <;> (try (exfalso; omega))))
  all_goals refine ⟨_, _, rfl, rfl, ?_⟩; simp [Frz_tup, Frz_ag, Frzs_cons, Frzs_nil, Frz_d, Frz_e0, Frz_sl, sln, isSl, slOk]
set_option maxHeartbeats 4000000 in
theorem only211 (b : List UInt8) (hb : ¬ b.length > 600) (hA : takeS b = (0, [], 12)) (hB : takeTextS b = ([], [], 11)) (e : Int) (hC : takeListS b = ([], [], e)) (he : e ≠ 0) : Go.Gar.Fn Try.prog 11 [.by b] (.b true) := by
  have eC : (e == 0) = false := by simp [he]
  have sC : (e != 0) = true := by simp [he]
  refine Fn_of_W eok Try.func11 rfl rfl (Nat.le_of_ble_eq_true rfl) ?_
  have nS := And.intro hA (And.intro hB (And.intro hC (And.intro eC sC)))
  repeat' (first
   | ((with_reducible refine sg ?_); first
    | with_reducible rfl
    | with_reducible refine andT ?_ ?_
    | with_reducible exact Nat.beq_refl _
    | with_reducible exact fitsI_u8 _
    | ((with_reducible refine decide_eq_true ?_); first | omega | (simp only [SZl, nS]; omega))
    | decide
    | (simp [SZl, slc, allOneD, D.one, allOne, AV.one, nS]; done)
    | (simp [SZl, nS]; omega))
   | ((with_reducible refine gWl ?_); first
    | (refine Wl_isMv rfl ?_; refine Xmv eok rfl rfl rfl rfl ?_)
    | refine XaoL [63, 80, 98] eok rfl rfl rfl rfl rfl rfl ?_ ?_ (hx := by first | (simp only [NSl, NHl, Nat.reduceAdd, Int.reduceAdd, Int.reduceSub, Int.reduceMul, Int.reduceToNat, nS, takeD3, takeT3, takeL3]; rfl) | rfl)
    | refine Xq eok rfl rfl rfl rfl ?_ ?_ (hx := by first | (simp only [NSl, NHl, Nat.reduceAdd, Int.reduceAdd, Int.reduceSub, Int.reduceMul, Int.reduceToNat, nS, takeD3, takeT3, takeL3]; rfl) | rfl)
    | refine Xn [0, 2, 3, 4, 5, 6, 7, 8, 9, 10, 11, 12, 13, 14, 15, 16, 17, 20, 106, 137] rfl ?_
    | refine Xfz 65 rfl rfl rfl (by first | rfl | simp [sln]) ?_
    | refine Xfz 82 rfl rfl rfl (by first | rfl | simp [sln]) ?_
    | refine Xfz 100 rfl rfl rfl (by first | rfl | simp [sln]) ?_
    | refine XF (Take_fn b (by omega)) rfl rfl rfl rfl ?_ (hr := by first | (simp only [NSl, NHl, Nat.reduceAdd, Int.reduceAdd, Int.reduceSub, Int.reduceMul, Int.reduceToNat, nS, takeD3, takeT3, takeL3]; rfl) | rfl)
    | refine XF (TakeText_fn b (by omega)) rfl rfl rfl rfl ?_ (hr := by first | (simp only [NSl, NHl, Nat.reduceAdd, Int.reduceAdd, Int.reduceSub, Int.reduceMul, Int.reduceToNat, nS, takeD3, takeT3, takeL3]; rfl) | rfl)
    | refine XF (TakeList_fn b (by omega)) rfl rfl rfl rfl ?_ (hr := by first | (simp only [NSl, NHl, Nat.reduceAdd, Int.reduceAdd, Int.reduceSub, Int.reduceMul, Int.reduceToNat, nS, takeD3, takeT3, takeL3]; rfl) | rfl)
    | refine XF (put_fn _) rfl rfl rfl rfl ?_ (hr := by first | (simp only [NSl, NHl, Nat.reduceAdd, Int.reduceAdd, Int.reduceSub, Int.reduceMul, Int.reduceToNat, nS, takeD3, takeT3, takeL3]; rfl) | rfl)
    | refine XF (text_fn _) rfl rfl rfl rfl ?_ (hr := by first | (simp only [NSl, NHl, Nat.reduceAdd, Int.reduceAdd, Int.reduceSub, Int.reduceMul, Int.reduceToNat, nS, takeD3, takeT3, takeL3]; rfl) | rfl)
    | refine XF (list_fn _) rfl rfl rfl rfl ?_ (hr := by first | (simp only [NSl, NHl, Nat.reduceAdd, Int.reduceAdd, Int.reduceSub, Int.reduceMul, Int.reduceToNat, nS, takeD3, takeT3, takeL3]; rfl) | rfl)
    | refine XF (same_fn _ _) rfl rfl rfl rfl ?_ (hr := by first | (simp only [NSl, NHl, Nat.reduceAdd, Int.reduceAdd, Int.reduceSub, Int.reduceMul, Int.reduceToNat, nS, takeD3, takeT3, takeL3]; rfl) | rfl)
    | refine XF (wakes_fn) rfl rfl rfl rfl ?_ (hr := by first | (simp only [NSl, NHl, Nat.reduceAdd, Int.reduceAdd, Int.reduceSub, Int.reduceMul, Int.reduceToNat, nS, takeD3, takeT3, takeL3]; rfl) | rfl)
    | refine Xw eok rfl rfl rfl rfl ?_ ?_ (hx := by first | (simp only [NSl, NHl, Nat.reduceAdd, Int.reduceAdd, Int.reduceSub, Int.reduceMul, Int.reduceToNat, nS, takeD3, takeT3, takeL3]; rfl) | rfl)
    | refine Xs rfl rfl rfl ?_
    | (refine Xsplit rfl rfl (fun hc => ?_) (fun hc => ?_) <;> (try simp only [decide_eq_true_eq, decide_eq_false_iff_not, Bool.not_eq_true', Bool.not_eq_false', beq_iff_eq, beq_eq_false_iff_ne, bne_iff_ne, bne_eq_false_iff_eq, ne_eq, Int.not_lt, Int.not_le, ge_iff_le, gt_iff_lt] at hc) <;> (try (exfalso; omega))))
   | refine W_seq ?_
   | refine W_region ?_
   | refine W_skip ?_
   | refine W_ret ?_
   | refine W_block ?_
   | refine W_exit ?_
   | refine W_cond_t rfl ?_
   | refine W_cond_f rfl ?_
   | (refine W_cond rfl (fun hc => ?_) (fun hc => ?_) <;> (try simp only [decide_eq_true_eq, decide_eq_false_iff_not, Bool.not_eq_true', Bool.not_eq_false', beq_iff_eq, beq_eq_false_iff_ne, bne_iff_ne, bne_eq_false_iff_eq, ne_eq, Int.not_lt, Int.not_le, ge_iff_le, gt_iff_lt] at hc) <;> (try (exfalso; omega))))
  all_goals refine ⟨_, _, rfl, rfl, ?_⟩; simp [Frz_tup, Frz_ag, Frzs_cons, Frzs_nil, Frz_d, Frz_e0, Frz_sl, sln, isSl, slOk]

theorem only_fn (b : List UInt8) : Go.Gar.Fn Try.prog 11 [.by b] (.b true) := by
  by_cases hb : b.length > 600
  · refine Fn_of_W eok Try.func11 rfl rfl (Nat.le_of_ble_eq_true rfl) ?_
    have nS := True.intro
    repeat' (first
     | ((with_reducible refine sg ?_); first
      | with_reducible rfl
      | with_reducible refine andT ?_ ?_
      | with_reducible exact Nat.beq_refl _
      | with_reducible exact fitsI_u8 _
      | ((with_reducible refine decide_eq_true ?_); first | omega | (simp only [SZl, nS]; omega))
      | decide
      | (simp [SZl, slc, allOneD, D.one, allOne, AV.one, nS]; done)
      | (simp [SZl, nS]; omega))
     | ((with_reducible refine gWl ?_); first
      | (refine Wl_isMv rfl ?_; refine Xmv eok rfl rfl rfl rfl ?_)
      | refine Xq eok rfl rfl rfl rfl ?_ ?_
      | refine Xn [0, 2, 3, 4, 5, 6, 7, 8, 9, 10, 11, 12, 13, 14, 15, 16, 17, 20, 106, 137] rfl ?_
      | refine XF (wakes_fn) rfl rfl rfl rfl ?_
      | refine Xw eok rfl rfl rfl rfl ?_ ?_
      | refine Xs rfl rfl rfl ?_
      | (refine Xsplit rfl rfl (fun hc => ?_) (fun hc => ?_) <;> (try simp only [decide_eq_true_eq, decide_eq_false_iff_not, Bool.not_eq_true', Bool.not_eq_false', beq_iff_eq, beq_eq_false_iff_ne, bne_iff_ne, bne_eq_false_iff_eq, ne_eq, Int.not_lt, Int.not_le, ge_iff_le, gt_iff_lt] at hc) <;> (try (exfalso; omega))))
     | refine W_seq ?_
     | refine W_region ?_
     | refine W_skip ?_
     | refine W_ret ?_
     | refine W_block ?_
     | refine W_exit ?_
     | refine W_cond_t rfl ?_
     | refine W_cond_f rfl ?_
     | (refine W_cond rfl (fun hc => ?_) (fun hc => ?_) <;> (try simp only [decide_eq_true_eq, decide_eq_false_iff_not, Bool.not_eq_true', Bool.not_eq_false', beq_iff_eq, beq_eq_false_iff_ne, bne_iff_ne, bne_eq_false_iff_eq, ne_eq, Int.not_lt, Int.not_le, ge_iff_le, gt_iff_lt] at hc) <;> (try (exfalso; omega))))
    refine ⟨_, _, rfl, rfl, ?_⟩; simp [Frz_tup, Frz_ag, Frzs_cons, Frzs_nil, Frz_d, Frz_e0, Frz_sl, sln, isSl, slOk]
  rcases takeS_cases b with ⟨n, p, a1, a2, a3⟩ | a1 | a1
  · rcases takeTextS_cases b with ⟨s, q, b1, b2, b3⟩ | b1
    · rcases takeListS_cases b with ⟨l, r, c1, c2, c3, c4⟩ | ⟨e, c1, c2⟩
      · exact only000 b hb n p a1 a2 a3 s q b1 b2 b3 l r c1 c2 c3 c4
      · exact only001 b hb n p a1 a2 a3 s q b1 b2 b3 e c1 c2
    · rcases takeListS_cases b with ⟨l, r, c1, c2, c3, c4⟩ | ⟨e, c1, c2⟩
      · exact only010 b hb n p a1 a2 a3 b1 l r c1 c2 c3 c4
      · exact only011 b hb n p a1 a2 a3 b1 e c1 c2
  · rcases takeTextS_cases b with ⟨s, q, b1, b2, b3⟩ | b1
    · rcases takeListS_cases b with ⟨l, r, c1, c2, c3, c4⟩ | ⟨e, c1, c2⟩
      · exact only100 b hb a1 s q b1 b2 b3 l r c1 c2 c3 c4
      · exact only101 b hb a1 s q b1 b2 b3 e c1 c2
    · rcases takeListS_cases b with ⟨l, r, c1, c2, c3, c4⟩ | ⟨e, c1, c2⟩
      · exact only110 b hb a1 b1 l r c1 c2 c3 c4
      · exact only111 b hb a1 b1 e c1 c2
  · rcases takeTextS_cases b with ⟨s, q, b1, b2, b3⟩ | b1
    · rcases takeListS_cases b with ⟨l, r, c1, c2, c3, c4⟩ | ⟨e, c1, c2⟩
      · exact only200 b hb a1 s q b1 b2 b3 l r c1 c2 c3 c4
      · exact only201 b hb a1 s q b1 b2 b3 e c1 c2
    · rcases takeListS_cases b with ⟨l, r, c1, c2, c3, c4⟩ | ⟨e, c1, c2⟩
      · exact only210 b hb a1 b1 l r c1 c2 c3 c4
      · exact only211 b hb a1 b1 e c1 c2
end Go.Proofs.Ytgnddlldcglpfaa
