/- Written by a program (pre.py) from the source of the same name. -/
/- Bags: the walk over the datagrams, each in memory of its own. -/
import Derived.Test.YtgnddlldcglpfaaBag2
set_option linter.unusedSimpArgs false
set_option linter.unusedVariables false
set_option linter.unnecessarySimpa false
namespace Go.Proofs.Ytgnddlldcglpfaa
open Go.Gar
set_option maxRecDepth 4000

theorem gramsIt_fn (l : List Gram) (n : Int) : FnD Try.prog 66 [.d (Bag.d ⟨l, n⟩)] [] (.fn (.func 70) [] [.ptr 0 0 2]) [.c [.d (gramsD l), .d (.i .i64 n)]] := by
  refine FnD_of_W eok Try.func66 rfl rfl (Nat.le_of_ble_eq_true rfl) ?_
  have nS := True.intro
  repeat' (first
   | ((with_reducible refine sg ?_); first
    | with_reducible rfl
    | with_reducible refine andT ?_ ?_
    | with_reducible exact Nat.beq_refl _
    | with_reducible exact fitsI_u8 _
    | ((with_reducible refine decide_eq_true ?_); first | omega | (simp only [SZl, nS]; omega))
    | decide
    | (simp [SZl, slc, allOneD, D.one, allOne, AV.one, nS]; done)
    | (simp [SZl, nS]; omega))
   | ((with_reducible refine gWl ?_); first
    | (refine Wl_isMv rfl ?_; refine Xmv eok rfl rfl rfl rfl ?_)
    | refine Xq eok rfl rfl rfl rfl ?_ ?_
    | refine Xn [0, 1, 2] rfl ?_
    | refine Xa eok rfl rfl rfl rfl rfl ?_ ?_)
   | refine W_seq ?_
   | refine W_region ?_
   | refine W_skip ?_
   | refine W_ret ?_
   | refine W_block ?_
   | refine W_exit ?_
   | refine W_cond_t rfl ?_
   | refine W_cond_f rfl ?_
   | (refine W_cond rfl (fun hc => ?_) (fun hc => ?_) <;> (try simp only [decide_eq_true_eq, decide_eq_false_iff_not, Bool.not_eq_true', Bool.not_eq_false', beq_iff_eq, beq_eq_false_iff_ne, bne_iff_ne, bne_eq_false_iff_eq, ne_eq, Int.not_lt, Int.not_le, ge_iff_le, gt_iff_lt] at hc) <;> (try (exfalso; omega))))
  exact ⟨_, (TSub.cut rfl (by repeat' (first | exact True.intro | refine And.intro (by (first | rfl | ((with_reducible_and_instances refine congrArg (fun z => some (AV.d (D.i _ z))) ?_); omega) | (refine congrArg (fun z => some (AV.d (D.i _ z))) (?_ : (_ : Int) = _); omega) | (refine congrArg some ?_; simp; done))) ?_)) (by repeat' (first | exact True.intro | refine And.intro (Or.inr rfl) ?_ | refine And.intro (Or.inl ⟨rfl, rfl⟩) ?_ | refine And.intro (Or.inr (by simp)) ?_)) (by first | rfl | (simp (decide := true) [heapOk, Blk.ok, AV.oks, AV.ok, hk]; done)) rfl), Nat.zero_le _, _, _, rfl, rfl, rfl, rfl⟩
theorem drop1_fn (cs : List AV) : FnD Try.prog 56 [.ptr 0 0 3] [.c cs] (.d (.b false)) [.c cs] := by
  refine FnD_of_W eok Try.func56 rfl rfl (Nat.le_of_ble_eq_true rfl) ?_
  have nS := True.intro
  repeat' (first
   | ((with_reducible refine sg ?_); first
    | with_reducible rfl
    | with_reducible refine andT ?_ ?_
    | with_reducible exact Nat.beq_refl _
    | with_reducible exact fitsI_u8 _
    | ((with_reducible refine decide_eq_true ?_); first | omega | (simp only [SZl, nS]; omega))
    | decide
    | (simp [SZl, slc, allOneD, D.one, allOne, AV.one, nS]; done)
    | (simp [SZl, nS]; omega))
   | ((with_reducible refine gWl ?_); first
    | (refine Wl_isMv rfl ?_; refine Xmv eok rfl rfl rfl rfl ?_)
    | refine Xq eok rfl rfl rfl rfl ?_ ?_
    | refine Xn [2] rfl ?_)
   | refine W_seq ?_
   | refine W_region ?_
   | refine W_skip ?_
   | refine W_ret ?_
   | refine W_block ?_
   | refine W_exit ?_
   | refine W_cond_t rfl ?_
   | refine W_cond_f rfl ?_
   | (refine W_cond rfl (fun hc => ?_) (fun hc => ?_) <;> (try simp only [decide_eq_true_eq, decide_eq_false_iff_not, Bool.not_eq_true', Bool.not_eq_false', beq_iff_eq, beq_eq_false_iff_ne, bne_iff_ne, bne_eq_false_iff_eq, ne_eq, Int.not_lt, Int.not_le, ge_iff_le, gt_iff_lt] at hc) <;> (try (exfalso; omega))))
  exact ⟨_, TSub.refl _, Nat.le_refl _, _, _, rfl, rfl, rfl, rfl⟩
theorem take1_fn (t : Int) (y : List UInt8) (h : Bool) : FnD Try.prog 53 [.ptr 0 0 3, .ptr 1 0 3] [.c [.d (.i .i64 t), .d (.by y), .d (.b h)], .c [.d (.i .i64 0), .e0, .d (.b false)]] (.d (.b false)) [.c [.d (.i .i64 t), .d (.by y), .d (.b h)], .c [.d (.i .i64 t), .d (.by y), .d (.b h)]] := by
  refine FnD_of_W eok Try.func53 rfl rfl (Nat.le_of_ble_eq_true rfl) ?_
  have nS := True.intro
  repeat' (first
   | ((with_reducible refine sg ?_); first
    | with_reducible rfl
    | with_reducible refine andT ?_ ?_
    | with_reducible exact Nat.beq_refl _
    | with_reducible exact fitsI_u8 _
    | ((with_reducible refine decide_eq_true ?_); first | omega | (simp only [SZl, nS]; omega))
    | decide
    | (simp [SZl, slc, allOneD, D.one, allOne, AV.one, nS]; done)
    | (simp [SZl, nS]; omega))
   | ((with_reducible refine gWl ?_); first
    | (refine Wl_isMv rfl ?_; refine Xmv eok rfl rfl rfl rfl ?_)
    | refine Xq eok rfl rfl rfl rfl ?_ ?_
    | refine Xn [0, 1, 3] rfl ?_
    | refine Xw eok rfl rfl rfl rfl ?_ ?_)
   | refine W_seq ?_
   | refine W_region ?_
   | refine W_skip ?_
   | refine W_ret ?_
   | refine W_block ?_
   | refine W_exit ?_
   | refine W_cond_t rfl ?_
   | refine W_cond_f rfl ?_
   | (refine W_cond rfl (fun hc => ?_) (fun hc => ?_) <;> (try simp only [decide_eq_true_eq, decide_eq_false_iff_not, Bool.not_eq_true', Bool.not_eq_false', beq_iff_eq, beq_eq_false_iff_ne, bne_iff_ne, bne_eq_false_iff_eq, ne_eq, Int.not_lt, Int.not_le, ge_iff_le, gt_iff_lt] at hc) <;> (try (exfalso; omega))))
  exact ⟨_, TSub.refl _, Nat.le_refl _, _, _, rfl, rfl, rfl, rfl⟩
/-- What is taken so far. -/
def tkc (g : Gram) (a k : Nat) : List AV := if a < k then [.d (.i .i64 g.to), .d (.by g.by_), .d (.b g.harmed)] else [.d (.i .i64 0), .e0, .d (.b false)]
theorem tkc_ok (g : Gram) (a k m : Nat) : AV.oks m (tkc g a k) = true := by
  unfold tkc; split <;> rfl
theorem tkc_len (g : Gram) (a k : Nat) : (tkc g a k).length = 3 := by
  unfold tkc; split <;> rfl
theorem tkc_lo (g : Gram) {a k : Nat} (h : ¬ a < k) : tkc g a k = [.d (.i .i64 0), .e0, .d (.b false)] := if_neg h
theorem tkc_hi (g : Gram) {a k : Nat} (h : a < k) : tkc g a k = [.d (.i .i64 g.to), .d (.by g.by_), .d (.b g.harmed)] := if_pos h
theorem tkc_ne (g : Gram) {a k : Nat} (h : k ≠ a) : tkc g a (k + 1) = tkc g a k := by
  unfold tkc
  by_cases h1 : a < k
  · rw [if_pos h1, if_pos (by omega)]
  · rw [if_neg h1, if_neg (by omega)]

theorem out_eq (l : List Gram) (k : Nat) {x : Gram} (hx : l[k]? = some x) : (l.take (k + 1)).eraseIdx k = (l.take k).eraseIdx k := by
  have hk := (List.getElem?_eq_some_iff.1 hx).1
  have hl : (l.take k).length = k := by rw [List.length_take]; omega
  rw [take_succ_of hx, List.eraseIdx_append_of_length_le (by omega), hl, Nat.sub_self]
  show l.take k ++ [] = _
  rw [List.append_nil, List.eraseIdx_of_length_le (by omega)]
theorem out_ne (l : List Gram) (a k : Nat) {x : Gram} (hx : l[k]? = some x) (h : k ≠ a) : (l.take (k + 1)).eraseIdx a = (l.take k).eraseIdx a ++ [x] := by
  have hk := (List.getElem?_eq_some_iff.1 hx).1
  rw [take_succ_of hx]
  rcases Nat.lt_or_ge a k with hlt | hge
  · rw [List.eraseIdx_append_of_lt_length (by simp; omega)]
  · rw [List.eraseIdx_of_length_le (by simp; omega), List.eraseIdx_of_length_le (by simp; omega)]

set_option maxHeartbeats 8000000 in
theorem withOwn_fn (l : List Gram) (n : Int)  (hl : l.length ≤ 1000) (hs : small l) :
    FnD Try.prog 52 [.d (Bag.d ⟨l, n⟩), .d (.i .i64 (-1)), .fn (.func 61) [] []] [] (.ag [.sl 4 (l).length 3, .d (.i .i64 n)]) [.gone, .gone, .gone, .c [.sl 4 (l).length 3, .d (.i .i64 n)], .a (gramsD (l))] := by
  refine FnD_of_W eok Try.func52 rfl rfl (Nat.le_of_ble_eq_true rfl) ?_
  have nS := True.intro
  repeat' (first
   | ((with_reducible refine sg ?_); first
    | with_reducible rfl
    | with_reducible refine andT ?_ ?_
    | with_reducible exact Nat.beq_refl _
    | with_reducible exact fitsI_u8 _
    | ((with_reducible refine decide_eq_true ?_); first | omega | (simp only [SZl, nS]; omega))
    | decide
    | (simp [SZl, slc, allOneD, D.one, allOne, AV.one, nS]; done)
    | (simp [SZl, nS]; omega))
   | ((with_reducible refine gWl ?_); first
    | (refine Wl_isMv rfl ?_; refine Xmv eok rfl rfl rfl rfl ?_)
    | refine Xq eok rfl rfl rfl rfl ?_ ?_
    | refine Xn [0, 1, 2, 3, 4, 5, 6, 7, 8, 9, 18, 19, 20, 27] rfl ?_
    | refine Xa eok rfl rfl rfl rfl rfl ?_ ?_
    | refine Xw eok rfl rfl rfl rfl ?_ ?_
    | refine Xs rfl rfl rfl ?_
    | (refine Xsplit rfl rfl (fun hc => ?_) (fun hc => ?_) <;> (fail_if_success (with_reducible first | exact absurd (hc : true = false) (by decide) | exact absurd (hc : false = true) (by decide))) <;> (try simp only [decide_eq_true_eq, decide_eq_false_iff_not, Bool.not_eq_true', Bool.not_eq_false', beq_iff_eq, beq_eq_false_iff_ne, bne_iff_ne, bne_eq_false_iff_eq, ne_eq, Int.not_lt, Int.not_le, ge_iff_le, gt_iff_lt] at hc) <;> (try (exfalso; omega))))
   | ((with_reducible refine gWd ?_); first
    | (refine Wd_isMv rfl ?_; refine Ymv eok rfl rfl (fun _ => rfl) rfl rfl ?_)
    | refine Yp eok rfl rfl (fun _ => rfl) rfl rfl ?_ ?_
    | refine Yq rfl rfl rfl rfl rfl ?_ ?_
    | refine Ys rfl rfl rfl rfl ?_
    | refine Ya eok rfl rfl rfl rfl rfl rfl ?_ ?_
    | refine Yw eok rfl rfl rfl rfl rfl ?_ ?_
    | refine Yn [0, 1, 2, 3, 4, 5, 6, 7, 8, 9, 18, 19, 20, 27] [] mixed eok (by kernel_rfl) True.intro rfl ?_
    | (refine Ysplit rfl rfl (fun hc => ?_) (fun hc => ?_) <;> (fail_if_success (with_reducible first | exact absurd (hc : true = false) (by decide) | exact absurd (hc : false = true) (by decide))) <;> (try simp only [decide_eq_true_eq, decide_eq_false_iff_not, Bool.not_eq_true', Bool.not_eq_false', beq_iff_eq, beq_eq_false_iff_ne, bne_iff_ne, bne_eq_false_iff_eq, ne_eq, Int.not_lt, Int.not_le, ge_iff_le, gt_iff_lt] at hc) <;> (try (exfalso; omega))))
   | refine W_seq ?_
   | refine W_regionS [1] rfl ?_
   | refine W_anyS [1] T.get rfl ?_
   | refine W_skip ?_
   | refine W_ret ?_
   | refine W_block ?_
   | refine W_exit ?_
   | refine W_cond_t rfl ?_
   | refine W_cond_f rfl ?_
   | (refine W_cond rfl (fun hc => ?_) (fun hc => ?_) <;> (try simp only [decide_eq_true_eq, decide_eq_false_iff_not, Bool.not_eq_true', Bool.not_eq_false', beq_iff_eq, beq_eq_false_iff_ne, bne_iff_ne, bne_eq_false_iff_eq, ne_eq, Int.not_lt, Int.not_le, ge_iff_le, gt_iff_lt] at hc) <;> (try (exfalso; omega))))
  refine W_any2 T.get 5 7 4 5 ⟨[(0, .d (Bag.d ⟨l, n⟩)), (1, .d (.i .i64 (-1))), (2, .fn (.func 61) [] []), (3, .ptr 0 0 2), (4, .ptr 1 0 1), (5, .ptr 2 0 1), (6, .ptr 3 0 2), (7, .ptr 5 0 2)], [.c [.d (gramsD l), .d (.i .i64 n)], .c [.d (.i .i64 (-1))], .c [.fn (.func 61) [] []], .c [.e0, .d (.i .i64 0)], .a (gramsD []), .c [.sl 4 0 3, .d (.i .i64 n)]], 35⟩ mixed rfl rfl rfl ?_ ?_ ?_
  · have nS := True.intro
    repeat' (first
     | ((with_reducible refine sg ?_); first
      | with_reducible rfl
      | with_reducible refine andT ?_ ?_
      | with_reducible exact Nat.beq_refl _
      | with_reducible exact fitsI_u8 _
      | ((with_reducible refine decide_eq_true ?_); first | omega | (simp only [SZl, nS]; omega))
      | decide
      | (simp [SZl, slc, allOneD, D.one, allOne, AV.one, nS]; done)
      | (simp [SZl, nS]; omega))
     | ((with_reducible refine gWl ?_); first
      | (refine Wl_isMv rfl ?_; refine Xmv eok rfl rfl rfl rfl ?_)
      | refine Xq eok rfl rfl rfl rfl ?_ ?_
      | refine Xn [0, 1, 2, 3, 4, 5, 6, 7, 8, 9, 18, 19, 20, 27] rfl ?_
      | refine Xa eok rfl rfl rfl rfl rfl ?_ ?_
      | refine Xw eok rfl rfl rfl rfl ?_ ?_
      | refine Xs rfl rfl rfl ?_
      | (refine Xsplit rfl rfl (fun hc => ?_) (fun hc => ?_) <;> (fail_if_success (with_reducible first | exact absurd (hc : true = false) (by decide) | exact absurd (hc : false = true) (by decide))) <;> (try simp only [decide_eq_true_eq, decide_eq_false_iff_not, Bool.not_eq_true', Bool.not_eq_false', beq_iff_eq, beq_eq_false_iff_ne, bne_iff_ne, bne_eq_false_iff_eq, ne_eq, Int.not_lt, Int.not_le, ge_iff_le, gt_iff_lt] at hc) <;> (try (exfalso; omega))))
     | ((with_reducible refine gWd ?_); first
      | (refine Wd_isMv rfl ?_; refine Ymv eok rfl rfl (fun _ => rfl) rfl rfl ?_)
      | refine Yp eok rfl rfl (fun _ => rfl) rfl rfl ?_ ?_
      | refine Yq rfl rfl rfl rfl rfl ?_ ?_
      | refine Ys rfl rfl rfl rfl ?_
      | refine Ya eok rfl rfl rfl rfl rfl rfl ?_ ?_
      | refine Yw eok rfl rfl rfl rfl rfl ?_ ?_
      | refine Yn [0, 1, 2, 3, 4, 5, 6, 7, 8, 9, 18, 19, 20, 27] [(0, 5), (1, 5), (0, 7), (1, 7)] mixed eok (by kernel_rfl) (by simp only [extraL]; repeat' (first | exact True.intro | refine And.intro ?_ ?_ | exact ⟨_, rfl, rfl⟩ | rfl)) rfl ?_
      | refine Yn2 [0, 1, 2, 3, 4, 5, 6, 7, 8, 9, 18, 19, 20, 27] [(0, 5), (1, 5), (0, 7), (1, 7)] eok (by kernel_rfl) (by simp only [extraL]; repeat' (first | exact True.intro | refine And.intro ?_ ?_ | exact ⟨_, rfl, rfl⟩ | rfl)) rfl ?_
      | (refine Ysplit rfl rfl (fun hc => ?_) (fun hc => ?_) <;> (fail_if_success (with_reducible first | exact absurd (hc : true = false) (by decide) | exact absurd (hc : false = true) (by decide))) <;> (try simp only [decide_eq_true_eq, decide_eq_false_iff_not, Bool.not_eq_true', Bool.not_eq_false', beq_iff_eq, beq_eq_false_iff_ne, bne_iff_ne, bne_eq_false_iff_eq, ne_eq, Int.not_lt, Int.not_le, ge_iff_le, gt_iff_lt] at hc) <;> (try (exfalso; omega))))
     | refine W_seq ?_
     | refine W_region ?_
     | refine W_any T.get ?_
     | refine W_skip ?_
     | refine W_ret ?_
     | refine W_block ?_
     | refine W_exit ?_
     | refine W_cond_t rfl ?_
     | refine W_cond_f rfl ?_
     | (refine W_cond rfl (fun hc => ?_) (fun hc => ?_) <;> (try simp only [decide_eq_true_eq, decide_eq_false_iff_not, Bool.not_eq_true', Bool.not_eq_false', beq_iff_eq, beq_eq_false_iff_ne, bne_iff_ne, bne_eq_false_iff_eq, ne_eq, Int.not_lt, Int.not_le, ge_iff_le, gt_iff_lt] at hc) <;> (try (exfalso; omega))))
    exact ⟨rfl, .inl rfl⟩
  · have nS := True.intro
    repeat' (first
     | ((with_reducible refine sg ?_); first
      | with_reducible rfl
      | with_reducible refine andT ?_ ?_
      | with_reducible exact Nat.beq_refl _
      | with_reducible exact fitsI_u8 _
      | ((with_reducible refine decide_eq_true ?_); first | omega | (simp only [SZl, nS]; omega))
      | decide
      | (simp [SZl, slc, allOneD, D.one, allOne, AV.one, nS]; done)
      | (simp [SZl, nS]; omega))
     | ((with_reducible refine gWl ?_); first
      | (refine Wl_isMv rfl ?_; refine Xmv eok rfl rfl rfl rfl ?_)
      | refine Xq eok rfl rfl rfl rfl ?_ ?_
      | refine Xn [0, 1, 2, 3, 4, 5, 6, 7, 8, 9, 18, 19, 20, 27] rfl ?_
      | refine Xa eok rfl rfl rfl rfl rfl ?_ ?_
      | refine Xw eok rfl rfl rfl rfl ?_ ?_
      | refine Xs rfl rfl rfl ?_
      | (refine Xsplit rfl rfl (fun hc => ?_) (fun hc => ?_) <;> (fail_if_success (with_reducible first | exact absurd (hc : true = false) (by decide) | exact absurd (hc : false = true) (by decide))) <;> (try simp only [decide_eq_true_eq, decide_eq_false_iff_not, Bool.not_eq_true', Bool.not_eq_false', beq_iff_eq, beq_eq_false_iff_ne, bne_iff_ne, bne_eq_false_iff_eq, ne_eq, Int.not_lt, Int.not_le, ge_iff_le, gt_iff_lt] at hc) <;> (try (exfalso; omega))))
     | ((with_reducible refine gWd ?_); first
      | (refine Wd_isMv rfl ?_; refine Ymv eok rfl rfl (fun _ => rfl) rfl rfl ?_)
      | refine Yp eok rfl rfl (fun _ => rfl) rfl rfl ?_ ?_
      | refine Yq rfl rfl rfl rfl rfl ?_ ?_
      | refine Ys rfl rfl rfl rfl ?_
      | refine Ya eok rfl rfl rfl rfl rfl rfl ?_ ?_
      | refine Yw eok rfl rfl rfl rfl rfl ?_ ?_
      | refine Yn [0, 1, 2, 3, 4, 5, 6, 7, 8, 9, 18, 19, 20, 27] [(0, 5), (1, 5), (2, 5), (3, 5), (0, 6), (1, 6)] mixed eok (by kernel_rfl) (by simp only [extraL]; repeat' (first | exact True.intro | refine And.intro ?_ ?_ | exact ⟨_, rfl, rfl⟩ | rfl)) rfl ?_
      | refine Yn2 [0, 1, 2, 3, 4, 5, 6, 7, 8, 9, 18, 19, 20, 27] [(0, 5), (1, 5), (2, 5), (3, 5), (0, 6), (1, 6)] eok (by kernel_rfl) (by simp only [extraL]; repeat' (first | exact True.intro | refine And.intro ?_ ?_ | exact ⟨_, rfl, rfl⟩ | rfl)) rfl ?_
      | (refine Ysplit rfl rfl (fun hc => ?_) (fun hc => ?_) <;> (fail_if_success (with_reducible first | exact absurd (hc : true = false) (by decide) | exact absurd (hc : false = true) (by decide))) <;> (try simp only [decide_eq_true_eq, decide_eq_false_iff_not, Bool.not_eq_true', Bool.not_eq_false', beq_iff_eq, beq_eq_false_iff_ne, bne_iff_ne, bne_eq_false_iff_eq, ne_eq, Int.not_lt, Int.not_le, ge_iff_le, gt_iff_lt] at hc) <;> (try (exfalso; omega))))
     | refine W_seq ?_
     | refine W_region ?_
     | refine W_any T.get ?_
     | refine W_skip ?_
     | refine W_ret ?_
     | refine W_block ?_
     | refine W_exit ?_
     | refine W_cond_t rfl ?_
     | refine W_cond_f rfl ?_
     | (refine W_cond rfl (fun hc => ?_) (fun hc => ?_) <;> (try simp only [decide_eq_true_eq, decide_eq_false_iff_not, Bool.not_eq_true', Bool.not_eq_false', beq_iff_eq, beq_eq_false_iff_ne, bne_iff_ne, bne_eq_false_iff_eq, ne_eq, Int.not_lt, Int.not_le, ge_iff_le, gt_iff_lt] at hc) <;> (try (exfalso; omega))))
    exact ⟨rfl, .inr rfl⟩
  have nS := True.intro
  repeat' (first
   | ((with_reducible refine sg ?_); first
    | with_reducible rfl
    | with_reducible refine andT ?_ ?_
    | with_reducible exact Nat.beq_refl _
    | with_reducible exact fitsI_u8 _
    | ((with_reducible refine decide_eq_true ?_); first | omega | (simp only [SZl, nS]; omega))
    | decide
    | (simp [SZl, slc, allOneD, D.one, allOne, AV.one, nS]; done)
    | (simp [SZl, nS]; omega))
   | ((with_reducible refine gWl ?_); first
    | (refine Wl_isMv rfl ?_; refine Xmv eok rfl rfl rfl rfl ?_)
    | refine Xq eok rfl rfl rfl rfl ?_ ?_
    | refine Xn [0, 1, 2, 3, 4, 5, 6, 7, 8, 9, 18, 19, 20, 27] rfl ?_
    | refine XD [] (gramsIt_fn l n) rfl rfl rfl (by repeat' (first | exact True.intro | refine And.intro rfl ?_)) rfl rfl rfl rfl ?_
    | refine Xa eok rfl rfl rfl rfl rfl ?_ ?_
    | refine Xw eok rfl rfl rfl rfl ?_ ?_
    | refine Xs rfl rfl rfl ?_
    | (refine Xsplit rfl rfl (fun hc => ?_) (fun hc => ?_) <;> (fail_if_success (with_reducible first | exact absurd (hc : true = false) (by decide) | exact absurd (hc : false = true) (by decide))) <;> (try simp only [decide_eq_true_eq, decide_eq_false_iff_not, Bool.not_eq_true', Bool.not_eq_false', beq_iff_eq, beq_eq_false_iff_ne, bne_iff_ne, bne_eq_false_iff_eq, ne_eq, Int.not_lt, Int.not_le, ge_iff_le, gt_iff_lt] at hc) <;> (try (exfalso; omega))))
   | ((with_reducible refine gWd ?_); first
    | (refine Wd_isMv rfl ?_; refine Ymv eok rfl rfl (fun _ => rfl) rfl rfl ?_)
    | refine Yp eok rfl rfl (fun _ => rfl) rfl rfl ?_ ?_
    | refine Yq rfl rfl rfl rfl rfl ?_ ?_
    | refine Ys rfl rfl rfl rfl ?_
    | refine YD [] (gramsIt_fn l n) rfl rfl rfl rfl (by repeat' (first | exact True.intro | refine And.intro rfl ?_)) rfl rfl rfl rfl ?_
    | refine Ya eok rfl rfl rfl rfl rfl rfl ?_ ?_
    | refine Yw eok rfl rfl rfl rfl rfl ?_ ?_
    | refine Yn [0, 1, 2, 3, 4, 5, 6, 7, 8, 9, 18, 19, 20, 27] [] mixed eok (by kernel_rfl) True.intro rfl ?_
    | (refine Ysplit rfl rfl (fun hc => ?_) (fun hc => ?_) <;> (fail_if_success (with_reducible first | exact absurd (hc : true = false) (by decide) | exact absurd (hc : false = true) (by decide))) <;> (try simp only [decide_eq_true_eq, decide_eq_false_iff_not, Bool.not_eq_true', Bool.not_eq_false', beq_iff_eq, beq_eq_false_iff_ne, bne_iff_ne, bne_eq_false_iff_eq, ne_eq, Int.not_lt, Int.not_le, ge_iff_le, gt_iff_lt] at hc) <;> (try (exfalso; omega))))
   | refine W_seq ?_
   | refine W_region ?_
   | refine W_any T.get ?_
   | refine W_skip ?_
   | refine W_ret ?_
   | refine W_block ?_
   | refine W_exit ?_
   | refine W_cond_t rfl ?_
   | refine W_cond_f rfl ?_
   | (refine W_cond rfl (fun hc => ?_) (fun hc => ?_) <;> (try simp only [decide_eq_true_eq, decide_eq_false_iff_not, Bool.not_eq_true', Bool.not_eq_false', beq_iff_eq, beq_eq_false_iff_ne, bne_iff_ne, bne_eq_false_iff_eq, ne_eq, Int.not_lt, Int.not_le, ge_iff_le, gt_iff_lt] at hc) <;> (try (exfalso; omega))))
  refine W_rangeX (K := fun r _ H' => H' = [.c [.d (gramsD l), .d (.i .i64 n)], .c [.d (.i .i64 (-1))], .c [.fn (.func 61) [] []], .c [.e0, .d (.i .i64 0)], .a (gramsD (l)), .c [.sl 4 (l).length 3, .d (.i .i64 n)], .c [.d (gramsD l), .d (.i .i64 n)], .lp r]) rfl (by first | (simp only [NSl, NHl, Nat.reduceAdd, Int.reduceAdd, Int.reduceSub, Int.reduceMul, Int.reduceToNat]; done) | (simp only [NSl, NHl, Nat.reduceAdd, Int.reduceAdd, Int.reduceSub, Int.reduceMul, Int.reduceToNat]; rfl) | rfl) (by first | (simp only [NSl, NHl, Nat.reduceAdd, Int.reduceAdd, Int.reduceSub, Int.reduceMul, Int.reduceToNat]; done) | (simp only [NSl, NHl, Nat.reduceAdd, Int.reduceAdd, Int.reduceSub, Int.reduceMul, Int.reduceToNat]; rfl) | rfl) (fun r => (by first | (simp only [NSl, NHl, Nat.reduceAdd, Int.reduceAdd, Int.reduceSub, Int.reduceMul, Int.reduceToNat]; done) | (simp only [NSl, NHl, Nat.reduceAdd, Int.reduceAdd, Int.reduceSub, Int.reduceMul, Int.reduceToNat]; rfl) | rfl)) ?_ ?_
  · intro r hr
    refine FnT_of_G eok Try.func70 rfl rfl (Nat.le_of_ble_eq_true rfl) ?_
    have nS := True.intro
    repeat' (first
     | ((with_reducible refine sg ?_); first
      | with_reducible rfl
      | with_reducible refine andT ?_ ?_
      | with_reducible exact Nat.beq_refl _
      | with_reducible exact fitsI_u8 _
      | ((with_reducible refine decide_eq_true ?_); first | omega | (simp only [SZl, nS]; omega))
      | decide
      | (simp [SZl, slc, allOneD, D.one, allOne, AV.one, nS]; done)
      | (simp [SZl, nS]; omega))
     | ((with_reducible refine gWl ?_); first
      | (refine Wl_isMv rfl ?_; refine Xmv eok rfl rfl rfl rfl ?_)
      | refine Xq eok rfl rfl rfl rfl ?_ ?_
      | refine Xn [0, 1, 3, 4, 6, 7, 8, 9, 18] rfl ?_
      | refine Xa eok rfl rfl rfl rfl rfl ?_ ?_
      | refine Xw eok rfl rfl rfl rfl ?_ ?_)
     | refine W_seq ?_
     | refine W_region ?_
     | refine W_skip ?_
     | refine W_ret ?_
     | refine W_block ?_
     | refine W_exit ?_
     | refine W_cond_t rfl ?_
     | refine W_cond_f rfl ?_
     | (refine W_cond rfl (fun hc => ?_) (fun hc => ?_) <;> (try simp only [decide_eq_true_eq, decide_eq_false_iff_not, Bool.not_eq_true', Bool.not_eq_false', beq_iff_eq, beq_eq_false_iff_ne, bne_iff_ne, bne_eq_false_iff_eq, ne_eq, Int.not_lt, Int.not_le, ge_iff_le, gt_iff_lt] at hc) <;> (try (exfalso; omega))))
    have hk := hr.ok (k := 7) rfl
    refine W_loopI (fun k => k ≤ l.length) (fun k : Nat => ⟨[(0, .yl 7), (1, .ptr 6 0 2), (6, .d (gramsD l)), (7, .d (.i .i64 l.length)), (8, .d (.i .i64 k))], [.c [.d (gramsD l), .d (.i .i64 n)], .c [.d (.i .i64 (-1))], .c [.fn (.func 61) [] []], .c [.e0, .d (.i .i64 0)], .a (gramsD (l.take (k))), .c [.sl 4 (l.take (k)).length 3, .d (.i .i64 n)], .c [.d (gramsD l), .d (.i .i64 n)], .lp r], 20⟩) (fun k => l.length - k) 0 (Nat.zero_le _) ?_ (Nat.le_refl _) ?_
    · exact TSub.cut rfl (by repeat' (first | exact True.intro | refine And.intro (by (first | rfl | ((with_reducible_and_instances refine congrArg (fun z => some (AV.d (D.i _ z))) ?_); omega) | (refine congrArg (fun z => some (AV.d (D.i _ z))) (?_ : (_ : Int) = _); omega) | (refine congrArg some ?_; simp only [List.take_zero]; done) | (refine congrArg some ?_; simp [List.take_zero]; done))) ?_)) (by repeat' (first | exact True.intro | refine And.intro (Or.inr rfl) ?_ | refine And.intro (Or.inl ⟨rfl, rfl⟩) ?_ | refine And.intro (Or.inr (by simp only [List.take_zero])) ?_ | refine And.intro (Or.inr (by simp [List.take_zero])) ?_)) (by first | rfl | (simp (decide := true) [heapOk, Blk.ok, AV.oks, AV.ok, hk]; done)) rfl
    intro k hkk
    have htl : (l.take (k)).length ≤ 1000 := by exact Nat.le_trans (List.length_take_le _ _) (by omega)
    by_cases hkl : k < l.length
    · obtain ⟨x, hx⟩ := get_of hkl
      have hb := small_get hs hx
      have e1 : ((k : Int) != -1) = true := by rw [bne_iff_ne]; omega
      have nS := True.intro
      repeat' (first
       | ((with_reducible refine sg ?_); first
        | with_reducible rfl
        | with_reducible refine andT ?_ ?_
        | with_reducible exact Nat.beq_refl _
        | with_reducible exact fitsI_u8 _
        | ((with_reducible refine decide_eq_true ?_); first | omega | (simp only [SZl, nS]; omega))
        | decide
        | (simp [SZl, slc, allOneD, D.one, allOne, AV.one, nS]; done)
        | (simp [SZl, nS]; omega))
       | ((with_reducible refine gWl ?_); first
        | (refine Wl_isMv rfl ?_; refine Xmv eok rfl rfl rfl rfl ?_)
        | (refine Wl_isIx rfl ?_; refine Xix eok rfl rfl rfl rfl rfl (Int.natCast_nonneg _) (ix_map hx) ?_)
        | refine Xq eok rfl rfl rfl rfl ?_ ?_
        | refine Xn [0, 1, 3, 4, 6, 7, 8, 9, 18] rfl ?_
        | refine XF (ownGram_fn x hb) rfl rfl rfl rfl ?_
        | refine Xa eok rfl rfl rfl rfl rfl ?_ ?_
        | refine Xw eok rfl rfl rfl rfl ?_ ?_)
       | refine W_seq ?_
       | refine W_region ?_
       | refine W_skip ?_
       | refine W_ret ?_
       | refine W_block ?_
       | refine W_exit ?_
       | refine W_cond_t rfl ?_
       | refine W_cond_f rfl ?_
       | (refine W_cond rfl (fun hc => ?_) (fun hc => ?_) <;> (try simp only [decide_eq_true_eq, decide_eq_false_iff_not, Bool.not_eq_true', Bool.not_eq_false', beq_iff_eq, beq_eq_false_iff_ne, bne_iff_ne, bne_eq_false_iff_eq, ne_eq, Int.not_lt, Int.not_le, ge_iff_le, gt_iff_lt] at hc) <;> (try (exfalso; omega))))
      refine Xy (x := .d (.b true)) (H' := [.c [.d (gramsD l), .d (.i .i64 n)], .c [.d (.i .i64 (-1))], .c [.fn (.func 61) [] []], .c [.e0, .d (.i .i64 0)], .a (gramsD (l.take (k + 1))), .c [.sl 4 (l.take (k + 1)).length 3, .d (.i .i64 n)], .c [.d (gramsD l), .d (.i .i64 n)], .lp r, .c [.d (.i .i64 x.to), .d (.by x.by_), .d (.b x.harmed)], .c [.d (.i .i64 x.to), .d (.by x.by_), .d (.b x.harmed)]]) (YT_of_L hr rfl rfl rfl ?_) rfl rfl rfl rfl rfl ?_
      · have nS := True.intro
        repeat' (first
         | ((with_reducible refine sg ?_); first
          | with_reducible rfl
          | with_reducible refine andT ?_ ?_
          | with_reducible exact Nat.beq_refl _
          | with_reducible exact fitsI_u8 _
          | ((with_reducible refine decide_eq_true ?_); first | omega | (simp only [SZl, nS]; omega))
          | decide
          | (simp [SZl, slc, allOneD, D.one, allOne, AV.one, nS]; done)
          | (simp [SZl, nS]; omega))
         | ((with_reducible refine gWl ?_); first
          | (refine Wl_isMv rfl ?_; refine Xmv eok rfl rfl rfl rfl ?_)
          | refine Xq eok rfl rfl rfl rfl ?_ ?_
          | refine Xn [0, 1, 2, 3, 4, 5, 6, 7, 8, 9, 18, 19, 20, 27] rfl ?_
          | refine Xa eok rfl rfl rfl rfl rfl ?_ ?_
          | refine Xw eok rfl rfl rfl rfl ?_ ?_
          | refine Xs rfl rfl rfl ?_
          | (refine Xsplit rfl rfl (fun hc => ?_) (fun hc => ?_) <;> (fail_if_success (with_reducible first | exact absurd (hc : true = false) (by decide) | exact absurd (hc : false = true) (by decide))) <;> (try simp only [decide_eq_true_eq, decide_eq_false_iff_not, Bool.not_eq_true', Bool.not_eq_false', beq_iff_eq, beq_eq_false_iff_ne, bne_iff_ne, bne_eq_false_iff_eq, ne_eq, Int.not_lt, Int.not_le, ge_iff_le, gt_iff_lt] at hc) <;> (try (exfalso; omega))))
         | ((with_reducible refine gWd ?_); first
          | (refine Wd_isMv rfl ?_; refine Ymv eok rfl rfl (fun _ => rfl) rfl rfl ?_)
          | refine Yp eok rfl rfl (fun _ => rfl) rfl rfl ?_ ?_
          | refine Yq rfl rfl rfl rfl rfl ?_ ?_
          | refine Ys rfl rfl rfl rfl ?_
          | refine Ya eok rfl rfl rfl rfl rfl rfl ?_ ?_
          | refine Yw eok rfl rfl rfl rfl rfl ?_ ?_
          | refine Yn [0, 1, 2, 3, 4, 5, 6, 7, 8, 9, 18, 19, 20, 27] [] mixed eok (by kernel_rfl) True.intro rfl ?_
          | (refine Ysplit rfl rfl (fun hc => ?_) (fun hc => ?_) <;> (fail_if_success (with_reducible first | exact absurd (hc : true = false) (by decide) | exact absurd (hc : false = true) (by decide))) <;> (try simp only [decide_eq_true_eq, decide_eq_false_iff_not, Bool.not_eq_true', Bool.not_eq_false', beq_iff_eq, beq_eq_false_iff_ne, bne_iff_ne, bne_eq_false_iff_eq, ne_eq, Int.not_lt, Int.not_le, ge_iff_le, gt_iff_lt] at hc) <;> (try (exfalso; omega))))
         | refine W_seq ?_
         | refine W_region ?_
         | refine W_any T.get ?_
         | refine W_skip ?_
         | refine W_ret ?_
         | refine W_block ?_
         | refine W_exit ?_
         | refine W_cond_t rfl ?_
         | refine W_cond_f rfl ?_
         | (refine W_cond rfl (fun hc => ?_) (fun hc => ?_) <;> (try simp only [decide_eq_true_eq, decide_eq_false_iff_not, Bool.not_eq_true', Bool.not_eq_false', beq_iff_eq, beq_eq_false_iff_ne, bne_iff_ne, bne_eq_false_iff_eq, ne_eq, Int.not_lt, Int.not_le, ge_iff_le, gt_iff_lt] at hc) <;> (try (exfalso; omega))))
        refine ⟨rfl, W_hp (by first | (simp only [NSl, NHl, Nat.reduceAdd, Int.reduceAdd, Int.reduceSub, Int.reduceMul, Int.reduceToNat]; done) | (simp only [NSl, NHl, Nat.reduceAdd, Int.reduceAdd, Int.reduceSub, Int.reduceMul, Int.reduceToNat]; rfl) | rfl) ?_⟩
        have nS := e1
        repeat' (first
         | ((with_reducible refine sg ?_); first
          | with_reducible rfl
          | with_reducible refine andT ?_ ?_
          | with_reducible exact Nat.beq_refl _
          | with_reducible exact fitsI_u8 _
          | ((with_reducible refine decide_eq_true ?_); first | omega | (simp only [SZl, nS]; omega))
          | decide
          | (simp [SZl, slc, allOneD, D.one, allOne, AV.one, nS]; done)
          | (simp [SZl, nS]; omega))
         | ((with_reducible refine gWl ?_); first
          | (refine Wl_isMv rfl ?_; refine Xmv eok rfl rfl rfl rfl ?_)
          | refine Xq eok rfl rfl rfl rfl ?_ ?_
          | refine Xn [0, 1, 2, 3, 4, 5, 6, 7, 8, 9, 18, 19, 20, 27] rfl ?_
          | refine Xa eok rfl rfl rfl rfl rfl ?_ ?_
          | refine Xw eok rfl rfl rfl rfl ?_ ?_
          | refine Xs rfl rfl rfl ?_
          | (refine Xsplit rfl rfl (fun hc => ?_) (fun hc => ?_) <;> (fail_if_success (with_reducible first | exact absurd (hc : true = false) (by decide) | exact absurd (hc : false = true) (by decide))) <;> (try simp only [decide_eq_true_eq, decide_eq_false_iff_not, Bool.not_eq_true', Bool.not_eq_false', beq_iff_eq, beq_eq_false_iff_ne, bne_iff_ne, bne_eq_false_iff_eq, ne_eq, Int.not_lt, Int.not_le, ge_iff_le, gt_iff_lt] at hc) <;> (try (exfalso; omega))))
         | ((with_reducible refine gWd ?_); first
          | (refine Wd_isMv rfl ?_; refine Ymv eok rfl rfl (fun _ => rfl) rfl rfl ?_)
          | refine Yp eok rfl rfl (fun _ => rfl) rfl rfl ?_ ?_
          | refine Yq rfl rfl rfl rfl rfl ?_ ?_
          | refine Ys rfl rfl rfl rfl ?_
          | refine Ya eok rfl rfl rfl rfl rfl rfl ?_ ?_
          | refine Yw eok rfl rfl rfl rfl rfl ?_ ?_
          | refine Yn [0, 1, 2, 3, 4, 5, 6, 7, 8, 9, 18, 19, 20, 27] [] mixed eok (by kernel_rfl) True.intro rfl ?_
          | (refine Ysplit rfl rfl (fun hc => ?_) (fun hc => ?_) <;> (fail_if_success (with_reducible first | exact absurd (hc : true = false) (by decide) | exact absurd (hc : false = true) (by decide))) <;> (try simp only [decide_eq_true_eq, decide_eq_false_iff_not, Bool.not_eq_true', Bool.not_eq_false', beq_iff_eq, beq_eq_false_iff_ne, bne_iff_ne, bne_eq_false_iff_eq, ne_eq, Int.not_lt, Int.not_le, ge_iff_le, gt_iff_lt] at hc) <;> (try (exfalso; omega))))
         | refine W_seq ?_
         | refine W_region ?_
         | refine W_any T.get ?_
         | refine W_skip ?_
         | refine W_ret ?_
         | refine W_block ?_
         | refine W_exit ?_
         | refine W_cond_t rfl ?_
         | refine W_cond_f rfl ?_
         | (refine W_cond rfl (fun hc => ?_) (fun hc => ?_) <;> (try simp only [decide_eq_true_eq, decide_eq_false_iff_not, Bool.not_eq_true', Bool.not_eq_false', beq_iff_eq, beq_eq_false_iff_ne, bne_iff_ne, bne_eq_false_iff_eq, ne_eq, Int.not_lt, Int.not_le, ge_iff_le, gt_iff_lt] at hc) <;> (try (exfalso; omega))))
        refine ⟨_, TSub.refl _, Nat.le_succ _, rfl, rfl, ?_⟩
        simp only [take_succ_of hx, gramsD, List.map_append, List.map_cons, List.map_nil, Gram.cells, List.length_append, List.length_map, List.length_cons, List.length_nil, List.set_cons_succ, List.set_cons_zero]
      · have nS := True.intro
        repeat' (first
         | ((with_reducible refine sg ?_); first
          | with_reducible rfl
          | with_reducible refine andT ?_ ?_
          | with_reducible exact Nat.beq_refl _
          | with_reducible exact fitsI_u8 _
          | ((with_reducible refine decide_eq_true ?_); first | omega | (simp only [SZl, nS]; omega))
          | decide
          | (simp [SZl, slc, allOneD, D.one, allOne, AV.one, nS]; done)
          | (simp [SZl, nS]; omega))
         | ((with_reducible refine gWl ?_); first
          | (refine Wl_isMv rfl ?_; refine Xmv eok rfl rfl rfl rfl ?_)
          | refine Xq eok rfl rfl rfl rfl ?_ ?_
          | refine Xn [0, 1, 3, 4, 6, 7, 8, 9, 18] rfl ?_
          | refine Xa eok rfl rfl rfl rfl rfl ?_ ?_
          | refine Xw eok rfl rfl rfl rfl ?_ ?_)
         | refine W_seq ?_
         | refine W_region ?_
         | refine W_skip ?_
         | refine W_ret ?_
         | refine W_block ?_
         | refine W_exit ?_
         | refine W_cond_t rfl ?_
         | refine W_cond_f rfl ?_
         | (refine W_cond rfl (fun hc => ?_) (fun hc => ?_) <;> (try simp only [decide_eq_true_eq, decide_eq_false_iff_not, Bool.not_eq_true', Bool.not_eq_false', beq_iff_eq, beq_eq_false_iff_ne, bne_iff_ne, bne_eq_false_iff_eq, ne_eq, Int.not_lt, Int.not_le, ge_iff_le, gt_iff_lt] at hc) <;> (try (exfalso; omega))))
        refine ⟨k + 1, hkl, by omega, Nat.le_refl _, ?_⟩
        exact TSub.cut rfl (by repeat' (first | exact True.intro | refine And.intro (by (first | rfl | ((with_reducible_and_instances refine congrArg (fun z => some (AV.d (D.i _ z))) ?_); omega) | (refine congrArg (fun z => some (AV.d (D.i _ z))) (?_ : (_ : Int) = _); omega) | (refine congrArg some ?_; simp only [take_succ_of hx]; done) | (refine congrArg some ?_; simp [take_succ_of hx]; done))) ?_)) (by repeat' (first | exact True.intro | refine And.intro (Or.inr rfl) ?_ | refine And.intro (Or.inl ⟨rfl, rfl⟩) ?_ | refine And.intro (Or.inr (by simp only [take_succ_of hx])) ?_ | refine And.intro (Or.inr (by simp [take_succ_of hx])) ?_)) (by first | rfl | (simp (decide := true) [heapOk, Blk.ok, AV.oks, AV.ok, hk]; done)) rfl

    · have e : k = l.length := by omega
      subst e
      have nS := True.intro
      repeat' (first
       | ((with_reducible refine sg ?_); first
        | with_reducible rfl
        | with_reducible refine andT ?_ ?_
        | with_reducible exact Nat.beq_refl _
        | with_reducible exact fitsI_u8 _
        | ((with_reducible refine decide_eq_true ?_); first | omega | (simp only [SZl, nS]; omega))
        | decide
        | (simp [SZl, slc, allOneD, D.one, allOne, AV.one, nS]; done)
        | (simp [SZl, nS]; omega))
       | ((with_reducible refine gWl ?_); first
        | (refine Wl_isMv rfl ?_; refine Xmv eok rfl rfl rfl rfl ?_)
        | refine Xq eok rfl rfl rfl rfl ?_ ?_
        | refine Xn [0, 1, 3, 4, 6, 7, 8, 9, 18] rfl ?_
        | refine Xa eok rfl rfl rfl rfl rfl ?_ ?_
        | refine Xw eok rfl rfl rfl rfl ?_ ?_)
       | refine W_seq ?_
       | refine W_region ?_
       | refine W_skip ?_
       | refine W_ret ?_
       | refine W_block ?_
       | refine W_exit ?_
       | refine W_cond_t rfl ?_
       | refine W_cond_f rfl ?_
       | (refine W_cond rfl (fun hc => ?_) (fun hc => ?_) <;> (try simp only [decide_eq_true_eq, decide_eq_false_iff_not, Bool.not_eq_true', Bool.not_eq_false', beq_iff_eq, beq_eq_false_iff_ne, bne_iff_ne, bne_eq_false_iff_eq, ne_eq, Int.not_lt, Int.not_le, ge_iff_le, gt_iff_lt] at hc) <;> (try (exfalso; omega))))
      refine ⟨_, TSub.refl _, Nat.le_refl _, _, _, rfl, rfl, ?_⟩
      simp only [List.take_length]
  · rintro r hr x H' rfl
    refine .inl ⟨rfl, ?_⟩
    have nS := True.intro
    repeat' (first
     | ((with_reducible refine sg ?_); first
      | with_reducible rfl
      | with_reducible refine andT ?_ ?_
      | with_reducible exact Nat.beq_refl _
      | with_reducible exact fitsI_u8 _
      | ((with_reducible refine decide_eq_true ?_); first | omega | (simp only [SZl, nS]; omega))
      | decide
      | (simp [SZl, slc, allOneD, D.one, allOne, AV.one, nS]; done)
      | (simp [SZl, nS]; omega))
     | ((with_reducible refine gWl ?_); first
      | (refine Wl_isMv rfl ?_; refine Xmv eok rfl rfl rfl rfl ?_)
      | refine Xq eok rfl rfl rfl rfl ?_ ?_
      | refine Xn [0, 1, 2, 3, 4, 5, 6, 7, 8, 9, 18, 19, 20, 27] rfl ?_
      | refine Xa eok rfl rfl rfl rfl rfl ?_ ?_
      | refine Xw eok rfl rfl rfl rfl ?_ ?_
      | refine Xs rfl rfl rfl ?_
      | (refine Xsplit rfl rfl (fun hc => ?_) (fun hc => ?_) <;> (fail_if_success (with_reducible first | exact absurd (hc : true = false) (by decide) | exact absurd (hc : false = true) (by decide))) <;> (try simp only [decide_eq_true_eq, decide_eq_false_iff_not, Bool.not_eq_true', Bool.not_eq_false', beq_iff_eq, beq_eq_false_iff_ne, bne_iff_ne, bne_eq_false_iff_eq, ne_eq, Int.not_lt, Int.not_le, ge_iff_le, gt_iff_lt] at hc) <;> (try (exfalso; omega))))
     | ((with_reducible refine gWd ?_); first
      | (refine Wd_isMv rfl ?_; refine Ymv eok rfl rfl (fun _ => rfl) rfl rfl ?_)
      | refine Yp eok rfl rfl (fun _ => rfl) rfl rfl ?_ ?_
      | refine Yq rfl rfl rfl rfl rfl ?_ ?_
      | refine Ys rfl rfl rfl rfl ?_
      | refine Ya eok rfl rfl rfl rfl rfl rfl ?_ ?_
      | refine Yw eok rfl rfl rfl rfl rfl ?_ ?_
      | refine Yn [0, 1, 2, 3, 4, 5, 6, 7, 8, 9, 18, 19, 20, 27] [] mixed eok (by kernel_rfl) True.intro rfl ?_
      | (refine Ysplit rfl rfl (fun hc => ?_) (fun hc => ?_) <;> (fail_if_success (with_reducible first | exact absurd (hc : true = false) (by decide) | exact absurd (hc : false = true) (by decide))) <;> (try simp only [decide_eq_true_eq, decide_eq_false_iff_not, Bool.not_eq_true', Bool.not_eq_false', beq_iff_eq, beq_eq_false_iff_ne, bne_iff_ne, bne_eq_false_iff_eq, ne_eq, Int.not_lt, Int.not_le, ge_iff_le, gt_iff_lt] at hc) <;> (try (exfalso; omega))))
     | refine W_seq ?_
     | refine W_region ?_
     | refine W_any T.get ?_
     | refine W_skip ?_
     | refine W_ret ?_
     | refine W_block ?_
     | refine W_exit ?_
     | refine W_cond_t rfl ?_
     | refine W_cond_f rfl ?_
     | (refine W_cond rfl (fun hc => ?_) (fun hc => ?_) <;> (try simp only [decide_eq_true_eq, decide_eq_false_iff_not, Bool.not_eq_true', Bool.not_eq_false', beq_iff_eq, beq_eq_false_iff_ne, bne_iff_ne, bne_eq_false_iff_eq, ne_eq, Int.not_lt, Int.not_le, ge_iff_le, gt_iff_lt] at hc) <;> (try (exfalso; omega))))
    exact ⟨⟨[(6, .ptr 3 0 2)], [.gone, .gone, .gone, .c [.sl 4 (l).length 3, .d (.i .i64 n)], .a (gramsD (l))], Try.f52.ntmps⟩, (TSub.cut rfl (by repeat' (first | exact True.intro | refine And.intro (by (first | rfl | ((with_reducible_and_instances refine congrArg (fun z => some (AV.d (D.i _ z))) ?_); omega) | (refine congrArg (fun z => some (AV.d (D.i _ z))) (?_ : (_ : Int) = _); omega) | (refine congrArg some ?_; simp; done))) ?_)) (by repeat' (first | exact True.intro | refine And.intro (Or.inr rfl) ?_ | refine And.intro (Or.inl ⟨rfl, rfl⟩) ?_ | refine And.intro (Or.inr (by simp)) ?_)) (by first | rfl | (simp (decide := true) [heapOk, Blk.ok, AV.oks, AV.ok, hk]; done)) rfl), Nat.le_of_ble_eq_true rfl, _, _, rfl, rfl, rfl, rfl⟩

set_option maxHeartbeats 8000000 in
theorem withDrop_fn (l : List Gram) (n : Int) (a : Nat) (hl : l.length ≤ 1000) (hs : small l) :
    FnD Try.prog 52 [.d (Bag.d ⟨l, n⟩), .d (.i .i64 a), .fn (.func 56) [] []] [] (.ag [.sl 4 (l.eraseIdx a).length 3, .d (.i .i64 n)]) [.gone, .gone, .gone, .c [.sl 4 (l.eraseIdx a).length 3, .d (.i .i64 n)], .a (gramsD (l.eraseIdx a))] := by
  refine FnD_of_W eok Try.func52 rfl rfl (Nat.le_of_ble_eq_true rfl) ?_
  have nS := True.intro
  repeat' (first
   | ((with_reducible refine sg ?_); first
    | with_reducible rfl
    | with_reducible refine andT ?_ ?_
    | with_reducible exact Nat.beq_refl _
    | with_reducible exact fitsI_u8 _
    | ((with_reducible refine decide_eq_true ?_); first | omega | (simp only [SZl, nS]; omega))
    | decide
    | (simp [SZl, slc, allOneD, D.one, allOne, AV.one, nS]; done)
    | (simp [SZl, nS]; omega))
   | ((with_reducible refine gWl ?_); first
    | (refine Wl_isMv rfl ?_; refine Xmv eok rfl rfl rfl rfl ?_)
    | refine Xq eok rfl rfl rfl rfl ?_ ?_
    | refine Xn [0, 1, 2, 3, 4, 5, 6, 7, 8, 9, 18, 19, 20, 27] rfl ?_
    | refine Xa eok rfl rfl rfl rfl rfl ?_ ?_
    | refine Xw eok rfl rfl rfl rfl ?_ ?_
    | refine Xs rfl rfl rfl ?_
    | (refine Xsplit rfl rfl (fun hc => ?_) (fun hc => ?_) <;> (fail_if_success (with_reducible first | exact absurd (hc : true = false) (by decide) | exact absurd (hc : false = true) (by decide))) <;> (try simp only [decide_eq_true_eq, decide_eq_false_iff_not, Bool.not_eq_true', Bool.not_eq_false', beq_iff_eq, beq_eq_false_iff_ne, bne_iff_ne, bne_eq_false_iff_eq, ne_eq, Int.not_lt, Int.not_le, ge_iff_le, gt_iff_lt] at hc) <;> (try (exfalso; omega))))
   | ((with_reducible refine gWd ?_); first
    | (refine Wd_isMv rfl ?_; refine Ymv eok rfl rfl (fun _ => rfl) rfl rfl ?_)
    | refine Yp eok rfl rfl (fun _ => rfl) rfl rfl ?_ ?_
    | refine Yq rfl rfl rfl rfl rfl ?_ ?_
    | refine Ys rfl rfl rfl rfl ?_
    | refine Ya eok rfl rfl rfl rfl rfl rfl ?_ ?_
    | refine Yw eok rfl rfl rfl rfl rfl ?_ ?_
    | refine Yn [0, 1, 2, 3, 4, 5, 6, 7, 8, 9, 18, 19, 20, 27] [] mixed eok (by kernel_rfl) True.intro rfl ?_
    | (refine Ysplit rfl rfl (fun hc => ?_) (fun hc => ?_) <;> (fail_if_success (with_reducible first | exact absurd (hc : true = false) (by decide) | exact absurd (hc : false = true) (by decide))) <;> (try simp only [decide_eq_true_eq, decide_eq_false_iff_not, Bool.not_eq_true', Bool.not_eq_false', beq_iff_eq, beq_eq_false_iff_ne, bne_iff_ne, bne_eq_false_iff_eq, ne_eq, Int.not_lt, Int.not_le, ge_iff_le, gt_iff_lt] at hc) <;> (try (exfalso; omega))))
   | refine W_seq ?_
   | refine W_regionS [1] rfl ?_
   | refine W_anyS [1] T.get rfl ?_
   | refine W_skip ?_
   | refine W_ret ?_
   | refine W_block ?_
   | refine W_exit ?_
   | refine W_cond_t rfl ?_
   | refine W_cond_f rfl ?_
   | (refine W_cond rfl (fun hc => ?_) (fun hc => ?_) <;> (try simp only [decide_eq_true_eq, decide_eq_false_iff_not, Bool.not_eq_true', Bool.not_eq_false', beq_iff_eq, beq_eq_false_iff_ne, bne_iff_ne, bne_eq_false_iff_eq, ne_eq, Int.not_lt, Int.not_le, ge_iff_le, gt_iff_lt] at hc) <;> (try (exfalso; omega))))
  refine W_any2 T.get 5 7 4 5 ⟨[(0, .d (Bag.d ⟨l, n⟩)), (1, .d (.i .i64 a)), (2, .fn (.func 56) [] []), (3, .ptr 0 0 2), (4, .ptr 1 0 1), (5, .ptr 2 0 1), (6, .ptr 3 0 2), (7, .ptr 5 0 2)], [.c [.d (gramsD l), .d (.i .i64 n)], .c [.d (.i .i64 a)], .c [.fn (.func 56) [] []], .c [.e0, .d (.i .i64 0)], .a (gramsD []), .c [.sl 4 0 3, .d (.i .i64 n)]], 35⟩ mixed rfl rfl rfl ?_ ?_ ?_
  · have nS := True.intro
    repeat' (first
     | ((with_reducible refine sg ?_); first
      | with_reducible rfl
      | with_reducible refine andT ?_ ?_
      | with_reducible exact Nat.beq_refl _
      | with_reducible exact fitsI_u8 _
      | ((with_reducible refine decide_eq_true ?_); first | omega | (simp only [SZl, nS]; omega))
      | decide
      | (simp [SZl, slc, allOneD, D.one, allOne, AV.one, nS]; done)
      | (simp [SZl, nS]; omega))
     | ((with_reducible refine gWl ?_); first
      | (refine Wl_isMv rfl ?_; refine Xmv eok rfl rfl rfl rfl ?_)
      | refine Xq eok rfl rfl rfl rfl ?_ ?_
      | refine Xn [0, 1, 2, 3, 4, 5, 6, 7, 8, 9, 18, 19, 20, 27] rfl ?_
      | refine Xa eok rfl rfl rfl rfl rfl ?_ ?_
      | refine Xw eok rfl rfl rfl rfl ?_ ?_
      | refine Xs rfl rfl rfl ?_
      | (refine Xsplit rfl rfl (fun hc => ?_) (fun hc => ?_) <;> (fail_if_success (with_reducible first | exact absurd (hc : true = false) (by decide) | exact absurd (hc : false = true) (by decide))) <;> (try simp only [decide_eq_true_eq, decide_eq_false_iff_not, Bool.not_eq_true', Bool.not_eq_false', beq_iff_eq, beq_eq_false_iff_ne, bne_iff_ne, bne_eq_false_iff_eq, ne_eq, Int.not_lt, Int.not_le, ge_iff_le, gt_iff_lt] at hc) <;> (try (exfalso; omega))))
     | ((with_reducible refine gWd ?_); first
      | (refine Wd_isMv rfl ?_; refine Ymv eok rfl rfl (fun _ => rfl) rfl rfl ?_)
      | refine Yp eok rfl rfl (fun _ => rfl) rfl rfl ?_ ?_
      | refine Yq rfl rfl rfl rfl rfl ?_ ?_
      | refine Ys rfl rfl rfl rfl ?_
      | refine Ya eok rfl rfl rfl rfl rfl rfl ?_ ?_
      | refine Yw eok rfl rfl rfl rfl rfl ?_ ?_
      | refine Yn [0, 1, 2, 3, 4, 5, 6, 7, 8, 9, 18, 19, 20, 27] [(0, 5), (1, 5), (0, 7), (1, 7)] mixed eok (by kernel_rfl) (by simp only [extraL]; repeat' (first | exact True.intro | refine And.intro ?_ ?_ | exact ⟨_, rfl, rfl⟩ | rfl)) rfl ?_
      | refine Yn2 [0, 1, 2, 3, 4, 5, 6, 7, 8, 9, 18, 19, 20, 27] [(0, 5), (1, 5), (0, 7), (1, 7)] eok (by kernel_rfl) (by simp only [extraL]; repeat' (first | exact True.intro | refine And.intro ?_ ?_ | exact ⟨_, rfl, rfl⟩ | rfl)) rfl ?_
      | (refine Ysplit rfl rfl (fun hc => ?_) (fun hc => ?_) <;> (fail_if_success (with_reducible first | exact absurd (hc : true = false) (by decide) | exact absurd (hc : false = true) (by decide))) <;> (try simp only [decide_eq_true_eq, decide_eq_false_iff_not, Bool.not_eq_true', Bool.not_eq_false', beq_iff_eq, beq_eq_false_iff_ne, bne_iff_ne, bne_eq_false_iff_eq, ne_eq, Int.not_lt, Int.not_le, ge_iff_le, gt_iff_lt] at hc) <;> (try (exfalso; omega))))
     | refine W_seq ?_
     | refine W_region ?_
     | refine W_any T.get ?_
     | refine W_skip ?_
     | refine W_ret ?_
     | refine W_block ?_
     | refine W_exit ?_
     | refine W_cond_t rfl ?_
     | refine W_cond_f rfl ?_
     | (refine W_cond rfl (fun hc => ?_) (fun hc => ?_) <;> (try simp only [decide_eq_true_eq, decide_eq_false_iff_not, Bool.not_eq_true', Bool.not_eq_false', beq_iff_eq, beq_eq_false_iff_ne, bne_iff_ne, bne_eq_false_iff_eq, ne_eq, Int.not_lt, Int.not_le, ge_iff_le, gt_iff_lt] at hc) <;> (try (exfalso; omega))))
    exact ⟨rfl, .inl rfl⟩
  · have nS := True.intro
    repeat' (first
     | ((with_reducible refine sg ?_); first
      | with_reducible rfl
      | with_reducible refine andT ?_ ?_
      | with_reducible exact Nat.beq_refl _
      | with_reducible exact fitsI_u8 _
      | ((with_reducible refine decide_eq_true ?_); first | omega | (simp only [SZl, nS]; omega))
      | decide
      | (simp [SZl, slc, allOneD, D.one, allOne, AV.one, nS]; done)
      | (simp [SZl, nS]; omega))
     | ((with_reducible refine gWl ?_); first
      | (refine Wl_isMv rfl ?_; refine Xmv eok rfl rfl rfl rfl ?_)
      | refine Xq eok rfl rfl rfl rfl ?_ ?_
      | refine Xn [0, 1, 2, 3, 4, 5, 6, 7, 8, 9, 18, 19, 20, 27] rfl ?_
      | refine Xa eok rfl rfl rfl rfl rfl ?_ ?_
      | refine Xw eok rfl rfl rfl rfl ?_ ?_
      | refine Xs rfl rfl rfl ?_
      | (refine Xsplit rfl rfl (fun hc => ?_) (fun hc => ?_) <;> (fail_if_success (with_reducible first | exact absurd (hc : true = false) (by decide) | exact absurd (hc : false = true) (by decide))) <;> (try simp only [decide_eq_true_eq, decide_eq_false_iff_not, Bool.not_eq_true', Bool.not_eq_false', beq_iff_eq, beq_eq_false_iff_ne, bne_iff_ne, bne_eq_false_iff_eq, ne_eq, Int.not_lt, Int.not_le, ge_iff_le, gt_iff_lt] at hc) <;> (try (exfalso; omega))))
     | ((with_reducible refine gWd ?_); first
      | (refine Wd_isMv rfl ?_; refine Ymv eok rfl rfl (fun _ => rfl) rfl rfl ?_)
      | refine Yp eok rfl rfl (fun _ => rfl) rfl rfl ?_ ?_
      | refine Yq rfl rfl rfl rfl rfl ?_ ?_
      | refine Ys rfl rfl rfl rfl ?_
      | refine Ya eok rfl rfl rfl rfl rfl rfl ?_ ?_
      | refine Yw eok rfl rfl rfl rfl rfl ?_ ?_
      | refine Yn [0, 1, 2, 3, 4, 5, 6, 7, 8, 9, 18, 19, 20, 27] [(0, 5), (1, 5), (2, 5), (3, 5), (0, 6), (1, 6)] mixed eok (by kernel_rfl) (by simp only [extraL]; repeat' (first | exact True.intro | refine And.intro ?_ ?_ | exact ⟨_, rfl, rfl⟩ | rfl)) rfl ?_
      | refine Yn2 [0, 1, 2, 3, 4, 5, 6, 7, 8, 9, 18, 19, 20, 27] [(0, 5), (1, 5), (2, 5), (3, 5), (0, 6), (1, 6)] eok (by kernel_rfl) (by simp only [extraL]; repeat' (first | exact True.intro | refine And.intro ?_ ?_ | exact ⟨_, rfl, rfl⟩ | rfl)) rfl ?_
      | (refine Ysplit rfl rfl (fun hc => ?_) (fun hc => ?_) <;> (fail_if_success (with_reducible first | exact absurd (hc : true = false) (by decide) | exact absurd (hc : false = true) (by decide))) <;> (try simp only [decide_eq_true_eq, decide_eq_false_iff_not, Bool.not_eq_true', Bool.not_eq_false', beq_iff_eq, beq_eq_false_iff_ne, bne_iff_ne, bne_eq_false_iff_eq, ne_eq, Int.not_lt, Int.not_le, ge_iff_le, gt_iff_lt] at hc) <;> (try (exfalso; omega))))
     | refine W_seq ?_
     | refine W_region ?_
     | refine W_any T.get ?_
     | refine W_skip ?_
     | refine W_ret ?_
     | refine W_block ?_
     | refine W_exit ?_
     | refine W_cond_t rfl ?_
     | refine W_cond_f rfl ?_
     | (refine W_cond rfl (fun hc => ?_) (fun hc => ?_) <;> (try simp only [decide_eq_true_eq, decide_eq_false_iff_not, Bool.not_eq_true', Bool.not_eq_false', beq_iff_eq, beq_eq_false_iff_ne, bne_iff_ne, bne_eq_false_iff_eq, ne_eq, Int.not_lt, Int.not_le, ge_iff_le, gt_iff_lt] at hc) <;> (try (exfalso; omega))))
    exact ⟨rfl, .inr rfl⟩
  have nS := True.intro
  repeat' (first
   | ((with_reducible refine sg ?_); first
    | with_reducible rfl
    | with_reducible refine andT ?_ ?_
    | with_reducible exact Nat.beq_refl _
    | with_reducible exact fitsI_u8 _
    | ((with_reducible refine decide_eq_true ?_); first | omega | (simp only [SZl, nS]; omega))
    | decide
    | (simp [SZl, slc, allOneD, D.one, allOne, AV.one, nS]; done)
    | (simp [SZl, nS]; omega))
   | ((with_reducible refine gWl ?_); first
    | (refine Wl_isMv rfl ?_; refine Xmv eok rfl rfl rfl rfl ?_)
    | refine Xq eok rfl rfl rfl rfl ?_ ?_
    | refine Xn [0, 1, 2, 3, 4, 5, 6, 7, 8, 9, 18, 19, 20, 27] rfl ?_
    | refine XD [] (gramsIt_fn l n) rfl rfl rfl (by repeat' (first | exact True.intro | refine And.intro rfl ?_)) rfl rfl rfl rfl ?_
    | refine Xa eok rfl rfl rfl rfl rfl ?_ ?_
    | refine Xw eok rfl rfl rfl rfl ?_ ?_
    | refine Xs rfl rfl rfl ?_
    | (refine Xsplit rfl rfl (fun hc => ?_) (fun hc => ?_) <;> (fail_if_success (with_reducible first | exact absurd (hc : true = false) (by decide) | exact absurd (hc : false = true) (by decide))) <;> (try simp only [decide_eq_true_eq, decide_eq_false_iff_not, Bool.not_eq_true', Bool.not_eq_false', beq_iff_eq, beq_eq_false_iff_ne, bne_iff_ne, bne_eq_false_iff_eq, ne_eq, Int.not_lt, Int.not_le, ge_iff_le, gt_iff_lt] at hc) <;> (try (exfalso; omega))))
   | ((with_reducible refine gWd ?_); first
    | (refine Wd_isMv rfl ?_; refine Ymv eok rfl rfl (fun _ => rfl) rfl rfl ?_)
    | refine Yp eok rfl rfl (fun _ => rfl) rfl rfl ?_ ?_
    | refine Yq rfl rfl rfl rfl rfl ?_ ?_
    | refine Ys rfl rfl rfl rfl ?_
    | refine YD [] (gramsIt_fn l n) rfl rfl rfl rfl (by repeat' (first | exact True.intro | refine And.intro rfl ?_)) rfl rfl rfl rfl ?_
    | refine Ya eok rfl rfl rfl rfl rfl rfl ?_ ?_
    | refine Yw eok rfl rfl rfl rfl rfl ?_ ?_
    | refine Yn [0, 1, 2, 3, 4, 5, 6, 7, 8, 9, 18, 19, 20, 27] [] mixed eok (by kernel_rfl) True.intro rfl ?_
    | (refine Ysplit rfl rfl (fun hc => ?_) (fun hc => ?_) <;> (fail_if_success (with_reducible first | exact absurd (hc : true = false) (by decide) | exact absurd (hc : false = true) (by decide))) <;> (try simp only [decide_eq_true_eq, decide_eq_false_iff_not, Bool.not_eq_true', Bool.not_eq_false', beq_iff_eq, beq_eq_false_iff_ne, bne_iff_ne, bne_eq_false_iff_eq, ne_eq, Int.not_lt, Int.not_le, ge_iff_le, gt_iff_lt] at hc) <;> (try (exfalso; omega))))
   | refine W_seq ?_
   | refine W_region ?_
   | refine W_any T.get ?_
   | refine W_skip ?_
   | refine W_ret ?_
   | refine W_block ?_
   | refine W_exit ?_
   | refine W_cond_t rfl ?_
   | refine W_cond_f rfl ?_
   | (refine W_cond rfl (fun hc => ?_) (fun hc => ?_) <;> (try simp only [decide_eq_true_eq, decide_eq_false_iff_not, Bool.not_eq_true', Bool.not_eq_false', beq_iff_eq, beq_eq_false_iff_ne, bne_iff_ne, bne_eq_false_iff_eq, ne_eq, Int.not_lt, Int.not_le, ge_iff_le, gt_iff_lt] at hc) <;> (try (exfalso; omega))))
  refine W_rangeX (K := fun r _ H' => H' = [.c [.d (gramsD l), .d (.i .i64 n)], .c [.d (.i .i64 a)], .c [.fn (.func 56) [] []], .c [.e0, .d (.i .i64 0)], .a (gramsD (l.eraseIdx a)), .c [.sl 4 (l.eraseIdx a).length 3, .d (.i .i64 n)], .c [.d (gramsD l), .d (.i .i64 n)], .lp r]) rfl (by first | (simp only [NSl, NHl, Nat.reduceAdd, Int.reduceAdd, Int.reduceSub, Int.reduceMul, Int.reduceToNat]; done) | (simp only [NSl, NHl, Nat.reduceAdd, Int.reduceAdd, Int.reduceSub, Int.reduceMul, Int.reduceToNat]; rfl) | rfl) (by first | (simp only [NSl, NHl, Nat.reduceAdd, Int.reduceAdd, Int.reduceSub, Int.reduceMul, Int.reduceToNat]; done) | (simp only [NSl, NHl, Nat.reduceAdd, Int.reduceAdd, Int.reduceSub, Int.reduceMul, Int.reduceToNat]; rfl) | rfl) (fun r => (by first | (simp only [NSl, NHl, Nat.reduceAdd, Int.reduceAdd, Int.reduceSub, Int.reduceMul, Int.reduceToNat]; done) | (simp only [NSl, NHl, Nat.reduceAdd, Int.reduceAdd, Int.reduceSub, Int.reduceMul, Int.reduceToNat]; rfl) | rfl)) ?_ ?_
  · intro r hr
    refine FnT_of_G eok Try.func70 rfl rfl (Nat.le_of_ble_eq_true rfl) ?_
    have nS := True.intro
    repeat' (first
     | ((with_reducible refine sg ?_); first
      | with_reducible rfl
      | with_reducible refine andT ?_ ?_
      | with_reducible exact Nat.beq_refl _
      | with_reducible exact fitsI_u8 _
      | ((with_reducible refine decide_eq_true ?_); first | omega | (simp only [SZl, nS]; omega))
      | decide
      | (simp [SZl, slc, allOneD, D.one, allOne, AV.one, nS]; done)
      | (simp [SZl, nS]; omega))
     | ((with_reducible refine gWl ?_); first
      | (refine Wl_isMv rfl ?_; refine Xmv eok rfl rfl rfl rfl ?_)
      | refine Xq eok rfl rfl rfl rfl ?_ ?_
      | refine Xn [0, 1, 3, 4, 6, 7, 8, 9, 18] rfl ?_
      | refine Xa eok rfl rfl rfl rfl rfl ?_ ?_
      | refine Xw eok rfl rfl rfl rfl ?_ ?_)
     | refine W_seq ?_
     | refine W_region ?_
     | refine W_skip ?_
     | refine W_ret ?_
     | refine W_block ?_
     | refine W_exit ?_
     | refine W_cond_t rfl ?_
     | refine W_cond_f rfl ?_
     | (refine W_cond rfl (fun hc => ?_) (fun hc => ?_) <;> (try simp only [decide_eq_true_eq, decide_eq_false_iff_not, Bool.not_eq_true', Bool.not_eq_false', beq_iff_eq, beq_eq_false_iff_ne, bne_iff_ne, bne_eq_false_iff_eq, ne_eq, Int.not_lt, Int.not_le, ge_iff_le, gt_iff_lt] at hc) <;> (try (exfalso; omega))))
    have hk := hr.ok (k := 7) rfl
    refine W_loopI (fun k => k ≤ l.length) (fun k : Nat => ⟨[(0, .yl 7), (1, .ptr 6 0 2), (6, .d (gramsD l)), (7, .d (.i .i64 l.length)), (8, .d (.i .i64 k))], [.c [.d (gramsD l), .d (.i .i64 n)], .c [.d (.i .i64 a)], .c [.fn (.func 56) [] []], .c [.e0, .d (.i .i64 0)], .a (gramsD ((l.take (k)).eraseIdx a)), .c [.sl 4 ((l.take (k)).eraseIdx a).length 3, .d (.i .i64 n)], .c [.d (gramsD l), .d (.i .i64 n)], .lp r], 20⟩) (fun k => l.length - k) 0 (Nat.zero_le _) ?_ (Nat.le_refl _) ?_
    · exact TSub.cut rfl (by repeat' (first | exact True.intro | refine And.intro (by (first | rfl | ((with_reducible_and_instances refine congrArg (fun z => some (AV.d (D.i _ z))) ?_); omega) | (refine congrArg (fun z => some (AV.d (D.i _ z))) (?_ : (_ : Int) = _); omega) | (refine congrArg some ?_; simp only [List.take_zero, List.eraseIdx_nil]; done) | (refine congrArg some ?_; simp [List.take_zero, List.eraseIdx_nil]; done))) ?_)) (by repeat' (first | exact True.intro | refine And.intro (Or.inr rfl) ?_ | refine And.intro (Or.inl ⟨rfl, rfl⟩) ?_ | refine And.intro (Or.inr (by simp only [List.take_zero, List.eraseIdx_nil])) ?_ | refine And.intro (Or.inr (by simp [List.take_zero, List.eraseIdx_nil])) ?_)) (by first | rfl | (simp (decide := true) [heapOk, Blk.ok, AV.oks, AV.ok, hk]; done)) rfl
    intro k hkk
    have htl : ((l.take (k)).eraseIdx a).length ≤ 1000 := by exact Nat.le_trans (List.length_eraseIdx_le ..) (Nat.le_trans (List.length_take_le _ _) (by omega))
    by_cases hkl : k < l.length
    · obtain ⟨x, hx⟩ := get_of hkl
      have hb := small_get hs hx
      by_cases hka : k = a
      · subst hka
        have e1 : ((k : Int) != (k : Int)) = false := bne_self_eq_false' _
        have nS := True.intro
        repeat' (first
         | ((with_reducible refine sg ?_); first
          | with_reducible rfl
          | with_reducible refine andT ?_ ?_
          | with_reducible exact Nat.beq_refl _
          | with_reducible exact fitsI_u8 _
          | ((with_reducible refine decide_eq_true ?_); first | omega | (simp only [SZl, nS]; omega))
          | decide
          | (simp [SZl, slc, allOneD, D.one, allOne, AV.one, nS]; done)
          | (simp [SZl, nS]; omega))
         | ((with_reducible refine gWl ?_); first
          | (refine Wl_isMv rfl ?_; refine Xmv eok rfl rfl rfl rfl ?_)
          | (refine Wl_isIx rfl ?_; refine Xix eok rfl rfl rfl rfl rfl (Int.natCast_nonneg _) (ix_map hx) ?_)
          | refine Xq eok rfl rfl rfl rfl ?_ ?_
          | refine Xn [0, 1, 3, 4, 6, 7, 8, 9, 18] rfl ?_
          | refine XF (ownGram_fn x hb) rfl rfl rfl rfl ?_
          | refine Xa eok rfl rfl rfl rfl rfl ?_ ?_
          | refine Xw eok rfl rfl rfl rfl ?_ ?_)
         | refine W_seq ?_
         | refine W_region ?_
         | refine W_skip ?_
         | refine W_ret ?_
         | refine W_block ?_
         | refine W_exit ?_
         | refine W_cond_t rfl ?_
         | refine W_cond_f rfl ?_
         | (refine W_cond rfl (fun hc => ?_) (fun hc => ?_) <;> (try simp only [decide_eq_true_eq, decide_eq_false_iff_not, Bool.not_eq_true', Bool.not_eq_false', beq_iff_eq, beq_eq_false_iff_ne, bne_iff_ne, bne_eq_false_iff_eq, ne_eq, Int.not_lt, Int.not_le, ge_iff_le, gt_iff_lt] at hc) <;> (try (exfalso; omega))))
        refine Xy (x := .d (.b true)) (H' := [.c [.d (gramsD l), .d (.i .i64 n)], .c [.d (.i .i64 k)], .c [.fn (.func 56) [] []], .c [.e0, .d (.i .i64 0)], .a (gramsD ((l.take (k + 1)).eraseIdx k)), .c [.sl 4 ((l.take (k + 1)).eraseIdx k).length 3, .d (.i .i64 n)], .c [.d (gramsD l), .d (.i .i64 n)], .lp r, .c [.d (.i .i64 x.to), .d (.by x.by_), .d (.b x.harmed)], .c [.d (.i .i64 x.to), .d (.by x.by_), .d (.b x.harmed)]]) (YT_of_L hr rfl rfl rfl ?_) rfl rfl rfl rfl rfl ?_
        · have nS := True.intro
          repeat' (first
           | ((with_reducible refine sg ?_); first
            | with_reducible rfl
            | with_reducible refine andT ?_ ?_
            | with_reducible exact Nat.beq_refl _
            | with_reducible exact fitsI_u8 _
            | ((with_reducible refine decide_eq_true ?_); first | omega | (simp only [SZl, nS]; omega))
            | decide
            | (simp [SZl, slc, allOneD, D.one, allOne, AV.one, nS]; done)
            | (simp [SZl, nS]; omega))
           | ((with_reducible refine gWl ?_); first
            | (refine Wl_isMv rfl ?_; refine Xmv eok rfl rfl rfl rfl ?_)
            | refine Xq eok rfl rfl rfl rfl ?_ ?_
            | refine Xn [0, 1, 2, 3, 4, 5, 6, 7, 8, 9, 18, 19, 20, 27] rfl ?_
            | refine Xa eok rfl rfl rfl rfl rfl ?_ ?_
            | refine Xw eok rfl rfl rfl rfl ?_ ?_
            | refine Xs rfl rfl rfl ?_
            | (refine Xsplit rfl rfl (fun hc => ?_) (fun hc => ?_) <;> (fail_if_success (with_reducible first | exact absurd (hc : true = false) (by decide) | exact absurd (hc : false = true) (by decide))) <;> (try simp only [decide_eq_true_eq, decide_eq_false_iff_not, Bool.not_eq_true', Bool.not_eq_false', beq_iff_eq, beq_eq_false_iff_ne, bne_iff_ne, bne_eq_false_iff_eq, ne_eq, Int.not_lt, Int.not_le, ge_iff_le, gt_iff_lt] at hc) <;> (try (exfalso; omega))))
           | ((with_reducible refine gWd ?_); first
            | (refine Wd_isMv rfl ?_; refine Ymv eok rfl rfl (fun _ => rfl) rfl rfl ?_)
            | refine Yp eok rfl rfl (fun _ => rfl) rfl rfl ?_ ?_
            | refine Yq rfl rfl rfl rfl rfl ?_ ?_
            | refine Ys rfl rfl rfl rfl ?_
            | refine Ya eok rfl rfl rfl rfl rfl rfl ?_ ?_
            | refine Yw eok rfl rfl rfl rfl rfl ?_ ?_
            | refine Yn [0, 1, 2, 3, 4, 5, 6, 7, 8, 9, 18, 19, 20, 27] [] mixed eok (by kernel_rfl) True.intro rfl ?_
            | (refine Ysplit rfl rfl (fun hc => ?_) (fun hc => ?_) <;> (fail_if_success (with_reducible first | exact absurd (hc : true = false) (by decide) | exact absurd (hc : false = true) (by decide))) <;> (try simp only [decide_eq_true_eq, decide_eq_false_iff_not, Bool.not_eq_true', Bool.not_eq_false', beq_iff_eq, beq_eq_false_iff_ne, bne_iff_ne, bne_eq_false_iff_eq, ne_eq, Int.not_lt, Int.not_le, ge_iff_le, gt_iff_lt] at hc) <;> (try (exfalso; omega))))
           | refine W_seq ?_
           | refine W_region ?_
           | refine W_any T.get ?_
           | refine W_skip ?_
           | refine W_ret ?_
           | refine W_block ?_
           | refine W_exit ?_
           | refine W_cond_t rfl ?_
           | refine W_cond_f rfl ?_
           | (refine W_cond rfl (fun hc => ?_) (fun hc => ?_) <;> (try simp only [decide_eq_true_eq, decide_eq_false_iff_not, Bool.not_eq_true', Bool.not_eq_false', beq_iff_eq, beq_eq_false_iff_ne, bne_iff_ne, bne_eq_false_iff_eq, ne_eq, Int.not_lt, Int.not_le, ge_iff_le, gt_iff_lt] at hc) <;> (try (exfalso; omega))))
          refine ⟨rfl, W_hp (by first | (simp only [NSl, NHl, Nat.reduceAdd, Int.reduceAdd, Int.reduceSub, Int.reduceMul, Int.reduceToNat]; done) | (simp only [NSl, NHl, Nat.reduceAdd, Int.reduceAdd, Int.reduceSub, Int.reduceMul, Int.reduceToNat]; rfl) | rfl) ?_⟩
          have nS := e1
          repeat' (first
           | ((with_reducible refine sg ?_); first
            | with_reducible rfl
            | with_reducible refine andT ?_ ?_
            | with_reducible exact Nat.beq_refl _
            | with_reducible exact fitsI_u8 _
            | ((with_reducible refine decide_eq_true ?_); first | omega | (simp only [SZl, nS]; omega))
            | decide
            | (simp [SZl, slc, allOneD, D.one, allOne, AV.one, nS]; done)
            | (simp [SZl, nS]; omega))
           | ((with_reducible refine gWl ?_); first
            | (refine Wl_isMv rfl ?_; refine Xmv eok rfl rfl rfl rfl ?_)
            | refine Xq eok rfl rfl rfl rfl ?_ ?_
            | refine Xn [0, 1, 2, 3, 4, 5, 6, 7, 8, 9, 18, 19, 20, 27] rfl ?_
            | refine XD [9] (drop1_fn [.d (.i .i64 x.to), .d (.by x.by_), .d (.b x.harmed)]) rfl rfl rfl (by repeat' (first | exact True.intro | refine And.intro rfl ?_)) rfl rfl rfl rfl ?_
            | refine Xa eok rfl rfl rfl rfl rfl ?_ ?_
            | refine Xw eok rfl rfl rfl rfl ?_ ?_
            | refine Xs rfl rfl rfl ?_
            | (refine Xsplit rfl rfl (fun hc => ?_) (fun hc => ?_) <;> (fail_if_success (with_reducible first | exact absurd (hc : true = false) (by decide) | exact absurd (hc : false = true) (by decide))) <;> (try simp only [decide_eq_true_eq, decide_eq_false_iff_not, Bool.not_eq_true', Bool.not_eq_false', beq_iff_eq, beq_eq_false_iff_ne, bne_iff_ne, bne_eq_false_iff_eq, ne_eq, Int.not_lt, Int.not_le, ge_iff_le, gt_iff_lt] at hc) <;> (try (exfalso; omega))))
           | ((with_reducible refine gWd ?_); first
            | (refine Wd_isMv rfl ?_; refine Ymv eok rfl rfl (fun _ => rfl) rfl rfl ?_)
            | refine Yp eok rfl rfl (fun _ => rfl) rfl rfl ?_ ?_
            | refine Yq rfl rfl rfl rfl rfl ?_ ?_
            | refine Ys rfl rfl rfl rfl ?_
            | refine YD [9] (drop1_fn [.d (.i .i64 x.to), .d (.by x.by_), .d (.b x.harmed)]) rfl rfl rfl rfl (by repeat' (first | exact True.intro | refine And.intro rfl ?_)) rfl rfl rfl rfl ?_
            | refine Ya eok rfl rfl rfl rfl rfl rfl ?_ ?_
            | refine Yw eok rfl rfl rfl rfl rfl ?_ ?_
            | refine Yn [0, 1, 2, 3, 4, 5, 6, 7, 8, 9, 18, 19, 20, 27] [] mixed eok (by kernel_rfl) True.intro rfl ?_
            | (refine Ysplit rfl rfl (fun hc => ?_) (fun hc => ?_) <;> (fail_if_success (with_reducible first | exact absurd (hc : true = false) (by decide) | exact absurd (hc : false = true) (by decide))) <;> (try simp only [decide_eq_true_eq, decide_eq_false_iff_not, Bool.not_eq_true', Bool.not_eq_false', beq_iff_eq, beq_eq_false_iff_ne, bne_iff_ne, bne_eq_false_iff_eq, ne_eq, Int.not_lt, Int.not_le, ge_iff_le, gt_iff_lt] at hc) <;> (try (exfalso; omega))))
           | refine W_seq ?_
           | refine W_region ?_
           | refine W_any T.get ?_
           | refine W_skip ?_
           | refine W_ret ?_
           | refine W_block ?_
           | refine W_exit ?_
           | refine W_cond_t rfl ?_
           | refine W_cond_f rfl ?_
           | (refine W_cond rfl (fun hc => ?_) (fun hc => ?_) <;> (try simp only [decide_eq_true_eq, decide_eq_false_iff_not, Bool.not_eq_true', Bool.not_eq_false', beq_iff_eq, beq_eq_false_iff_ne, bne_iff_ne, bne_eq_false_iff_eq, ne_eq, Int.not_lt, Int.not_le, ge_iff_le, gt_iff_lt] at hc) <;> (try (exfalso; omega))))
          refine ⟨_, TSub.refl _, Nat.le_succ _, rfl, rfl, ?_⟩
          simp only [out_eq l k hx, gramsD, List.map_append, List.map_cons, List.map_nil, Gram.cells, List.length_append, List.length_map, List.length_cons, List.length_nil, List.set_cons_succ, List.set_cons_zero]
        · have nS := True.intro
          repeat' (first
           | ((with_reducible refine sg ?_); first
            | with_reducible rfl
            | with_reducible refine andT ?_ ?_
            | with_reducible exact Nat.beq_refl _
            | with_reducible exact fitsI_u8 _
            | ((with_reducible refine decide_eq_true ?_); first | omega | (simp only [SZl, nS]; omega))
            | decide
            | (simp [SZl, slc, allOneD, D.one, allOne, AV.one, nS]; done)
            | (simp [SZl, nS]; omega))
           | ((with_reducible refine gWl ?_); first
            | (refine Wl_isMv rfl ?_; refine Xmv eok rfl rfl rfl rfl ?_)
            | refine Xq eok rfl rfl rfl rfl ?_ ?_
            | refine Xn [0, 1, 3, 4, 6, 7, 8, 9, 18] rfl ?_
            | refine Xa eok rfl rfl rfl rfl rfl ?_ ?_
            | refine Xw eok rfl rfl rfl rfl ?_ ?_)
           | refine W_seq ?_
           | refine W_region ?_
           | refine W_skip ?_
           | refine W_ret ?_
           | refine W_block ?_
           | refine W_exit ?_
           | refine W_cond_t rfl ?_
           | refine W_cond_f rfl ?_
           | (refine W_cond rfl (fun hc => ?_) (fun hc => ?_) <;> (try simp only [decide_eq_true_eq, decide_eq_false_iff_not, Bool.not_eq_true', Bool.not_eq_false', beq_iff_eq, beq_eq_false_iff_ne, bne_iff_ne, bne_eq_false_iff_eq, ne_eq, Int.not_lt, Int.not_le, ge_iff_le, gt_iff_lt] at hc) <;> (try (exfalso; omega))))
          refine ⟨k + 1, hkl, by omega, Nat.le_refl _, ?_⟩
          exact TSub.cut rfl (by repeat' (first | exact True.intro | refine And.intro (by (first | rfl | ((with_reducible_and_instances refine congrArg (fun z => some (AV.d (D.i _ z))) ?_); omega) | (refine congrArg (fun z => some (AV.d (D.i _ z))) (?_ : (_ : Int) = _); omega) | (refine congrArg some ?_; simp only [out_eq l k hx]; done) | (refine congrArg some ?_; simp [out_eq l k hx]; done))) ?_)) (by repeat' (first | exact True.intro | refine And.intro (Or.inr rfl) ?_ | refine And.intro (Or.inl ⟨rfl, rfl⟩) ?_ | refine And.intro (Or.inr (by simp only [out_eq l k hx])) ?_ | refine And.intro (Or.inr (by simp [out_eq l k hx])) ?_)) (by first | rfl | (simp (decide := true) [heapOk, Blk.ok, AV.oks, AV.ok, hk]; done)) rfl
      · have e1 : ((k : Int) != (a : Int)) = true := by rw [bne_iff_ne]; omega
        have nS := True.intro
        repeat' (first
         | ((with_reducible refine sg ?_); first
          | with_reducible rfl
          | with_reducible refine andT ?_ ?_
          | with_reducible exact Nat.beq_refl _
          | with_reducible exact fitsI_u8 _
          | ((with_reducible refine decide_eq_true ?_); first | omega | (simp only [SZl, nS]; omega))
          | decide
          | (simp [SZl, slc, allOneD, D.one, allOne, AV.one, nS]; done)
          | (simp [SZl, nS]; omega))
         | ((with_reducible refine gWl ?_); first
          | (refine Wl_isMv rfl ?_; refine Xmv eok rfl rfl rfl rfl ?_)
          | (refine Wl_isIx rfl ?_; refine Xix eok rfl rfl rfl rfl rfl (Int.natCast_nonneg _) (ix_map hx) ?_)
          | refine Xq eok rfl rfl rfl rfl ?_ ?_
          | refine Xn [0, 1, 3, 4, 6, 7, 8, 9, 18] rfl ?_
          | refine XF (ownGram_fn x hb) rfl rfl rfl rfl ?_
          | refine Xa eok rfl rfl rfl rfl rfl ?_ ?_
          | refine Xw eok rfl rfl rfl rfl ?_ ?_)
         | refine W_seq ?_
         | refine W_region ?_
         | refine W_skip ?_
         | refine W_ret ?_
         | refine W_block ?_
         | refine W_exit ?_
         | refine W_cond_t rfl ?_
         | refine W_cond_f rfl ?_
         | (refine W_cond rfl (fun hc => ?_) (fun hc => ?_) <;> (try simp only [decide_eq_true_eq, decide_eq_false_iff_not, Bool.not_eq_true', Bool.not_eq_false', beq_iff_eq, beq_eq_false_iff_ne, bne_iff_ne, bne_eq_false_iff_eq, ne_eq, Int.not_lt, Int.not_le, ge_iff_le, gt_iff_lt] at hc) <;> (try (exfalso; omega))))
        refine Xy (x := .d (.b true)) (H' := [.c [.d (gramsD l), .d (.i .i64 n)], .c [.d (.i .i64 a)], .c [.fn (.func 56) [] []], .c [.e0, .d (.i .i64 0)], .a (gramsD ((l.take (k + 1)).eraseIdx a)), .c [.sl 4 ((l.take (k + 1)).eraseIdx a).length 3, .d (.i .i64 n)], .c [.d (gramsD l), .d (.i .i64 n)], .lp r, .c [.d (.i .i64 x.to), .d (.by x.by_), .d (.b x.harmed)], .c [.d (.i .i64 x.to), .d (.by x.by_), .d (.b x.harmed)]]) (YT_of_L hr rfl rfl rfl ?_) rfl rfl rfl rfl rfl ?_
        · have nS := True.intro
          repeat' (first
           | ((with_reducible refine sg ?_); first
            | with_reducible rfl
            | with_reducible refine andT ?_ ?_
            | with_reducible exact Nat.beq_refl _
            | with_reducible exact fitsI_u8 _
            | ((with_reducible refine decide_eq_true ?_); first | omega | (simp only [SZl, nS]; omega))
            | decide
            | (simp [SZl, slc, allOneD, D.one, allOne, AV.one, nS]; done)
            | (simp [SZl, nS]; omega))
           | ((with_reducible refine gWl ?_); first
            | (refine Wl_isMv rfl ?_; refine Xmv eok rfl rfl rfl rfl ?_)
            | refine Xq eok rfl rfl rfl rfl ?_ ?_
            | refine Xn [0, 1, 2, 3, 4, 5, 6, 7, 8, 9, 18, 19, 20, 27] rfl ?_
            | refine Xa eok rfl rfl rfl rfl rfl ?_ ?_
            | refine Xw eok rfl rfl rfl rfl ?_ ?_
            | refine Xs rfl rfl rfl ?_
            | (refine Xsplit rfl rfl (fun hc => ?_) (fun hc => ?_) <;> (fail_if_success (with_reducible first | exact absurd (hc : true = false) (by decide) | exact absurd (hc : false = true) (by decide))) <;> (try simp only [decide_eq_true_eq, decide_eq_false_iff_not, Bool.not_eq_true', Bool.not_eq_false', beq_iff_eq, beq_eq_false_iff_ne, bne_iff_ne, bne_eq_false_iff_eq, ne_eq, Int.not_lt, Int.not_le, ge_iff_le, gt_iff_lt] at hc) <;> (try (exfalso; omega))))
           | ((with_reducible refine gWd ?_); first
            | (refine Wd_isMv rfl ?_; refine Ymv eok rfl rfl (fun _ => rfl) rfl rfl ?_)
            | refine Yp eok rfl rfl (fun _ => rfl) rfl rfl ?_ ?_
            | refine Yq rfl rfl rfl rfl rfl ?_ ?_
            | refine Ys rfl rfl rfl rfl ?_
            | refine Ya eok rfl rfl rfl rfl rfl rfl ?_ ?_
            | refine Yw eok rfl rfl rfl rfl rfl ?_ ?_
            | refine Yn [0, 1, 2, 3, 4, 5, 6, 7, 8, 9, 18, 19, 20, 27] [] mixed eok (by kernel_rfl) True.intro rfl ?_
            | (refine Ysplit rfl rfl (fun hc => ?_) (fun hc => ?_) <;> (fail_if_success (with_reducible first | exact absurd (hc : true = false) (by decide) | exact absurd (hc : false = true) (by decide))) <;> (try simp only [decide_eq_true_eq, decide_eq_false_iff_not, Bool.not_eq_true', Bool.not_eq_false', beq_iff_eq, beq_eq_false_iff_ne, bne_iff_ne, bne_eq_false_iff_eq, ne_eq, Int.not_lt, Int.not_le, ge_iff_le, gt_iff_lt] at hc) <;> (try (exfalso; omega))))
           | refine W_seq ?_
           | refine W_region ?_
           | refine W_any T.get ?_
           | refine W_skip ?_
           | refine W_ret ?_
           | refine W_block ?_
           | refine W_exit ?_
           | refine W_cond_t rfl ?_
           | refine W_cond_f rfl ?_
           | (refine W_cond rfl (fun hc => ?_) (fun hc => ?_) <;> (try simp only [decide_eq_true_eq, decide_eq_false_iff_not, Bool.not_eq_true', Bool.not_eq_false', beq_iff_eq, beq_eq_false_iff_ne, bne_iff_ne, bne_eq_false_iff_eq, ne_eq, Int.not_lt, Int.not_le, ge_iff_le, gt_iff_lt] at hc) <;> (try (exfalso; omega))))
          refine ⟨rfl, W_hp (by first | (simp only [NSl, NHl, Nat.reduceAdd, Int.reduceAdd, Int.reduceSub, Int.reduceMul, Int.reduceToNat]; done) | (simp only [NSl, NHl, Nat.reduceAdd, Int.reduceAdd, Int.reduceSub, Int.reduceMul, Int.reduceToNat]; rfl) | rfl) ?_⟩
          have nS := e1
          repeat' (first
           | ((with_reducible refine sg ?_); first
            | with_reducible rfl
            | with_reducible refine andT ?_ ?_
            | with_reducible exact Nat.beq_refl _
            | with_reducible exact fitsI_u8 _
            | ((with_reducible refine decide_eq_true ?_); first | omega | (simp only [SZl, nS]; omega))
            | decide
            | (simp [SZl, slc, allOneD, D.one, allOne, AV.one, nS]; done)
            | (simp [SZl, nS]; omega))
           | ((with_reducible refine gWl ?_); first
            | (refine Wl_isMv rfl ?_; refine Xmv eok rfl rfl rfl rfl ?_)
            | refine Xq eok rfl rfl rfl rfl ?_ ?_
            | refine Xn [0, 1, 2, 3, 4, 5, 6, 7, 8, 9, 18, 19, 20, 27] rfl ?_
            | refine Xa eok rfl rfl rfl rfl rfl ?_ ?_
            | refine Xw eok rfl rfl rfl rfl ?_ ?_
            | refine Xs rfl rfl rfl ?_
            | (refine Xsplit rfl rfl (fun hc => ?_) (fun hc => ?_) <;> (fail_if_success (with_reducible first | exact absurd (hc : true = false) (by decide) | exact absurd (hc : false = true) (by decide))) <;> (try simp only [decide_eq_true_eq, decide_eq_false_iff_not, Bool.not_eq_true', Bool.not_eq_false', beq_iff_eq, beq_eq_false_iff_ne, bne_iff_ne, bne_eq_false_iff_eq, ne_eq, Int.not_lt, Int.not_le, ge_iff_le, gt_iff_lt] at hc) <;> (try (exfalso; omega))))
           | ((with_reducible refine gWd ?_); first
            | (refine Wd_isMv rfl ?_; refine Ymv eok rfl rfl (fun _ => rfl) rfl rfl ?_)
            | refine Yp eok rfl rfl (fun _ => rfl) rfl rfl ?_ ?_
            | refine Yq rfl rfl rfl rfl rfl ?_ ?_
            | refine Ys rfl rfl rfl rfl ?_
            | refine Ya eok rfl rfl rfl rfl rfl rfl ?_ ?_
            | refine Yw eok rfl rfl rfl rfl rfl ?_ ?_
            | refine Yn [0, 1, 2, 3, 4, 5, 6, 7, 8, 9, 18, 19, 20, 27] [] mixed eok (by kernel_rfl) True.intro rfl ?_
            | (refine Ysplit rfl rfl (fun hc => ?_) (fun hc => ?_) <;> (fail_if_success (with_reducible first | exact absurd (hc : true = false) (by decide) | exact absurd (hc : false = true) (by decide))) <;> (try simp only [decide_eq_true_eq, decide_eq_false_iff_not, Bool.not_eq_true', Bool.not_eq_false', beq_iff_eq, beq_eq_false_iff_ne, bne_iff_ne, bne_eq_false_iff_eq, ne_eq, Int.not_lt, Int.not_le, ge_iff_le, gt_iff_lt] at hc) <;> (try (exfalso; omega))))
           | refine W_seq ?_
           | refine W_region ?_
           | refine W_any T.get ?_
           | refine W_skip ?_
           | refine W_ret ?_
           | refine W_block ?_
           | refine W_exit ?_
           | refine W_cond_t rfl ?_
           | refine W_cond_f rfl ?_
           | (refine W_cond rfl (fun hc => ?_) (fun hc => ?_) <;> (try simp only [decide_eq_true_eq, decide_eq_false_iff_not, Bool.not_eq_true', Bool.not_eq_false', beq_iff_eq, beq_eq_false_iff_ne, bne_iff_ne, bne_eq_false_iff_eq, ne_eq, Int.not_lt, Int.not_le, ge_iff_le, gt_iff_lt] at hc) <;> (try (exfalso; omega))))
          refine ⟨_, TSub.refl _, Nat.le_succ _, rfl, rfl, ?_⟩
          simp only [out_ne l a k hx hka, gramsD, List.map_append, List.map_cons, List.map_nil, Gram.cells, List.length_append, List.length_map, List.length_cons, List.length_nil, List.set_cons_succ, List.set_cons_zero]
        · have nS := True.intro
          repeat' (first
           | ((with_reducible refine sg ?_); first
            | with_reducible rfl
            | with_reducible refine andT ?_ ?_
            | with_reducible exact Nat.beq_refl _
            | with_reducible exact fitsI_u8 _
            | ((with_reducible refine decide_eq_true ?_); first | omega | (simp only [SZl, nS]; omega))
            | decide
            | (simp [SZl, slc, allOneD, D.one, allOne, AV.one, nS]; done)
            | (simp [SZl, nS]; omega))
           | ((with_reducible refine gWl ?_); first
            | (refine Wl_isMv rfl ?_; refine Xmv eok rfl rfl rfl rfl ?_)
            | refine Xq eok rfl rfl rfl rfl ?_ ?_
            | refine Xn [0, 1, 3, 4, 6, 7, 8, 9, 18] rfl ?_
            | refine Xa eok rfl rfl rfl rfl rfl ?_ ?_
            | refine Xw eok rfl rfl rfl rfl ?_ ?_)
           | refine W_seq ?_
           | refine W_region ?_
           | refine W_skip ?_
           | refine W_ret ?_
           | refine W_block ?_
           | refine W_exit ?_
           | refine W_cond_t rfl ?_
           | refine W_cond_f rfl ?_
           | (refine W_cond rfl (fun hc => ?_) (fun hc => ?_) <;> (try simp only [decide_eq_true_eq, decide_eq_false_iff_not, Bool.not_eq_true', Bool.not_eq_false', beq_iff_eq, beq_eq_false_iff_ne, bne_iff_ne, bne_eq_false_iff_eq, ne_eq, Int.not_lt, Int.not_le, ge_iff_le, gt_iff_lt] at hc) <;> (try (exfalso; omega))))
          refine ⟨k + 1, hkl, by omega, Nat.le_refl _, ?_⟩
          exact TSub.cut rfl (by repeat' (first | exact True.intro | refine And.intro (by (first | rfl | ((with_reducible_and_instances refine congrArg (fun z => some (AV.d (D.i _ z))) ?_); omega) | (refine congrArg (fun z => some (AV.d (D.i _ z))) (?_ : (_ : Int) = _); omega) | (refine congrArg some ?_; simp only [out_ne l a k hx hka]; done) | (refine congrArg some ?_; simp [out_ne l a k hx hka]; done))) ?_)) (by repeat' (first | exact True.intro | refine And.intro (Or.inr rfl) ?_ | refine And.intro (Or.inl ⟨rfl, rfl⟩) ?_ | refine And.intro (Or.inr (by simp only [out_ne l a k hx hka])) ?_ | refine And.intro (Or.inr (by simp [out_ne l a k hx hka])) ?_)) (by first | rfl | (simp (decide := true) [heapOk, Blk.ok, AV.oks, AV.ok, hk]; done)) rfl

    · have e : k = l.length := by omega
      subst e
      have nS := True.intro
      repeat' (first
       | ((with_reducible refine sg ?_); first
        | with_reducible rfl
        | with_reducible refine andT ?_ ?_
        | with_reducible exact Nat.beq_refl _
        | with_reducible exact fitsI_u8 _
        | ((with_reducible refine decide_eq_true ?_); first | omega | (simp only [SZl, nS]; omega))
        | decide
        | (simp [SZl, slc, allOneD, D.one, allOne, AV.one, nS]; done)
        | (simp [SZl, nS]; omega))
       | ((with_reducible refine gWl ?_); first
        | (refine Wl_isMv rfl ?_; refine Xmv eok rfl rfl rfl rfl ?_)
        | refine Xq eok rfl rfl rfl rfl ?_ ?_
        | refine Xn [0, 1, 3, 4, 6, 7, 8, 9, 18] rfl ?_
        | refine Xa eok rfl rfl rfl rfl rfl ?_ ?_
        | refine Xw eok rfl rfl rfl rfl ?_ ?_)
       | refine W_seq ?_
       | refine W_region ?_
       | refine W_skip ?_
       | refine W_ret ?_
       | refine W_block ?_
       | refine W_exit ?_
       | refine W_cond_t rfl ?_
       | refine W_cond_f rfl ?_
       | (refine W_cond rfl (fun hc => ?_) (fun hc => ?_) <;> (try simp only [decide_eq_true_eq, decide_eq_false_iff_not, Bool.not_eq_true', Bool.not_eq_false', beq_iff_eq, beq_eq_false_iff_ne, bne_iff_ne, bne_eq_false_iff_eq, ne_eq, Int.not_lt, Int.not_le, ge_iff_le, gt_iff_lt] at hc) <;> (try (exfalso; omega))))
      refine ⟨_, TSub.refl _, Nat.le_refl _, _, _, rfl, rfl, ?_⟩
      simp only [List.take_length]
  · rintro r hr x H' rfl
    refine .inl ⟨rfl, ?_⟩
    have nS := True.intro
    repeat' (first
     | ((with_reducible refine sg ?_); first
      | with_reducible rfl
      | with_reducible refine andT ?_ ?_
      | with_reducible exact Nat.beq_refl _
      | with_reducible exact fitsI_u8 _
      | ((with_reducible refine decide_eq_true ?_); first | omega | (simp only [SZl, nS]; omega))
      | decide
      | (simp [SZl, slc, allOneD, D.one, allOne, AV.one, nS]; done)
      | (simp [SZl, nS]; omega))
     | ((with_reducible refine gWl ?_); first
      | (refine Wl_isMv rfl ?_; refine Xmv eok rfl rfl rfl rfl ?_)
      | refine Xq eok rfl rfl rfl rfl ?_ ?_
      | refine Xn [0, 1, 2, 3, 4, 5, 6, 7, 8, 9, 18, 19, 20, 27] rfl ?_
      | refine Xa eok rfl rfl rfl rfl rfl ?_ ?_
      | refine Xw eok rfl rfl rfl rfl ?_ ?_
      | refine Xs rfl rfl rfl ?_
      | (refine Xsplit rfl rfl (fun hc => ?_) (fun hc => ?_) <;> (fail_if_success (with_reducible first | exact absurd (hc : true = false) (by decide) | exact absurd (hc : false = true) (by decide))) <;> (try simp only [decide_eq_true_eq, decide_eq_false_iff_not, Bool.not_eq_true', Bool.not_eq_false', beq_iff_eq, beq_eq_false_iff_ne, bne_iff_ne, bne_eq_false_iff_eq, ne_eq, Int.not_lt, Int.not_le, ge_iff_le, gt_iff_lt] at hc) <;> (try (exfalso; omega))))
     | ((with_reducible refine gWd ?_); first
      | (refine Wd_isMv rfl ?_; refine Ymv eok rfl rfl (fun _ => rfl) rfl rfl ?_)
      | refine Yp eok rfl rfl (fun _ => rfl) rfl rfl ?_ ?_
      | refine Yq rfl rfl rfl rfl rfl ?_ ?_
      | refine Ys rfl rfl rfl rfl ?_
      | refine Ya eok rfl rfl rfl rfl rfl rfl ?_ ?_
      | refine Yw eok rfl rfl rfl rfl rfl ?_ ?_
      | refine Yn [0, 1, 2, 3, 4, 5, 6, 7, 8, 9, 18, 19, 20, 27] [] mixed eok (by kernel_rfl) True.intro rfl ?_
      | (refine Ysplit rfl rfl (fun hc => ?_) (fun hc => ?_) <;> (fail_if_success (with_reducible first | exact absurd (hc : true = false) (by decide) | exact absurd (hc : false = true) (by decide))) <;> (try simp only [decide_eq_true_eq, decide_eq_false_iff_not, Bool.not_eq_true', Bool.not_eq_false', beq_iff_eq, beq_eq_false_iff_ne, bne_iff_ne, bne_eq_false_iff_eq, ne_eq, Int.not_lt, Int.not_le, ge_iff_le, gt_iff_lt] at hc) <;> (try (exfalso; omega))))
     | refine W_seq ?_
     | refine W_region ?_
     | refine W_any T.get ?_
     | refine W_skip ?_
     | refine W_ret ?_
     | refine W_block ?_
     | refine W_exit ?_
     | refine W_cond_t rfl ?_
     | refine W_cond_f rfl ?_
     | (refine W_cond rfl (fun hc => ?_) (fun hc => ?_) <;> (try simp only [decide_eq_true_eq, decide_eq_false_iff_not, Bool.not_eq_true', Bool.not_eq_false', beq_iff_eq, beq_eq_false_iff_ne, bne_iff_ne, bne_eq_false_iff_eq, ne_eq, Int.not_lt, Int.not_le, ge_iff_le, gt_iff_lt] at hc) <;> (try (exfalso; omega))))
    exact ⟨⟨[(6, .ptr 3 0 2)], [.gone, .gone, .gone, .c [.sl 4 (l.eraseIdx a).length 3, .d (.i .i64 n)], .a (gramsD (l.eraseIdx a))], Try.f52.ntmps⟩, (TSub.cut rfl (by repeat' (first | exact True.intro | refine And.intro (by (first | rfl | ((with_reducible_and_instances refine congrArg (fun z => some (AV.d (D.i _ z))) ?_); omega) | (refine congrArg (fun z => some (AV.d (D.i _ z))) (?_ : (_ : Int) = _); omega) | (refine congrArg some ?_; simp; done))) ?_)) (by repeat' (first | exact True.intro | refine And.intro (Or.inr rfl) ?_ | refine And.intro (Or.inl ⟨rfl, rfl⟩) ?_ | refine And.intro (Or.inr (by simp)) ?_)) (by first | rfl | (simp (decide := true) [heapOk, Blk.ok, AV.oks, AV.ok, hk]; done)) rfl), Nat.le_of_ble_eq_true rfl, _, _, rfl, rfl, rfl, rfl⟩

set_option maxHeartbeats 8000000 in
theorem withTake_fn (l : List Gram) (n : Int) (a : Nat) (g : Gram) (hg : l[a]? = some g) (hl : l.length ≤ 1000) (hs : small l) :
    FnD Try.prog 52 [.d (Bag.d ⟨l, n⟩), .d (.i .i64 a), .fn (.func 53) [] [.ptr 0 0 3]] [.c [.d (.i .i64 0), .e0, .d (.b false)]] (.ag [.sl 5 (l.eraseIdx a).length 3, .d (.i .i64 n)]) [.c [.d (.i .i64 g.to), .d (.by g.by_), .d (.b g.harmed)], .gone, .gone, .gone, .c [.sl 5 (l.eraseIdx a).length 3, .d (.i .i64 n)], .a (gramsD (l.eraseIdx a))] := by
  refine FnD_of_W eok Try.func52 rfl rfl (Nat.le_of_ble_eq_true rfl) ?_
  have nS := True.intro
  repeat' (first
   | ((with_reducible refine sg ?_); first
    | with_reducible rfl
    | with_reducible refine andT ?_ ?_
    | with_reducible exact Nat.beq_refl _
    | with_reducible exact fitsI_u8 _
    | ((with_reducible refine decide_eq_true ?_); first | omega | (simp only [SZl, nS]; omega))
    | decide
    | (simp [SZl, slc, allOneD, D.one, allOne, AV.one, nS]; done)
    | (simp [SZl, nS]; omega))
   | ((with_reducible refine gWl ?_); first
    | (refine Wl_isMv rfl ?_; refine Xmv eok rfl rfl rfl rfl ?_)
    | refine Xq eok rfl rfl rfl rfl ?_ ?_
    | refine Xn [0, 1, 2, 3, 4, 5, 6, 7, 8, 9, 18, 19, 20, 27] rfl ?_
    | refine Xa eok rfl rfl rfl rfl rfl ?_ ?_
    | refine Xw eok rfl rfl rfl rfl ?_ ?_
    | refine Xs rfl rfl rfl ?_
    | (refine Xsplit rfl rfl (fun hc => ?_) (fun hc => ?_) <;> (fail_if_success (with_reducible first | exact absurd (hc : true = false) (by decide) | exact absurd (hc : false = true) (by decide))) <;> (try simp only [decide_eq_true_eq, decide_eq_false_iff_not, Bool.not_eq_true', Bool.not_eq_false', beq_iff_eq, beq_eq_false_iff_ne, bne_iff_ne, bne_eq_false_iff_eq, ne_eq, Int.not_lt, Int.not_le, ge_iff_le, gt_iff_lt] at hc) <;> (try (exfalso; omega))))
   | ((with_reducible refine gWd ?_); first
    | (refine Wd_isMv rfl ?_; refine Ymv eok rfl rfl (fun _ => rfl) rfl rfl ?_)
    | refine Yp eok rfl rfl (fun _ => rfl) rfl rfl ?_ ?_
    | refine Yq rfl rfl rfl rfl rfl ?_ ?_
    | refine Ys rfl rfl rfl rfl ?_
    | refine Ya eok rfl rfl rfl rfl rfl rfl ?_ ?_
    | refine Yw eok rfl rfl rfl rfl rfl ?_ ?_
    | refine Yn [0, 1, 2, 3, 4, 5, 6, 7, 8, 9, 18, 19, 20, 27] [] mixed eok (by kernel_rfl) True.intro rfl ?_
    | (refine Ysplit rfl rfl (fun hc => ?_) (fun hc => ?_) <;> (fail_if_success (with_reducible first | exact absurd (hc : true = false) (by decide) | exact absurd (hc : false = true) (by decide))) <;> (try simp only [decide_eq_true_eq, decide_eq_false_iff_not, Bool.not_eq_true', Bool.not_eq_false', beq_iff_eq, beq_eq_false_iff_ne, bne_iff_ne, bne_eq_false_iff_eq, ne_eq, Int.not_lt, Int.not_le, ge_iff_le, gt_iff_lt] at hc) <;> (try (exfalso; omega))))
   | refine W_seq ?_
   | refine W_regionS [1] rfl ?_
   | refine W_anyS [1] T.get rfl ?_
   | refine W_skip ?_
   | refine W_ret ?_
   | refine W_block ?_
   | refine W_exit ?_
   | refine W_cond_t rfl ?_
   | refine W_cond_f rfl ?_
   | (refine W_cond rfl (fun hc => ?_) (fun hc => ?_) <;> (try simp only [decide_eq_true_eq, decide_eq_false_iff_not, Bool.not_eq_true', Bool.not_eq_false', beq_iff_eq, beq_eq_false_iff_ne, bne_iff_ne, bne_eq_false_iff_eq, ne_eq, Int.not_lt, Int.not_le, ge_iff_le, gt_iff_lt] at hc) <;> (try (exfalso; omega))))
  refine W_any2 T.get 5 7 5 6 ⟨[(0, .d (Bag.d ⟨l, n⟩)), (1, .d (.i .i64 a)), (2, .fn (.func 53) [] [.ptr 0 0 3]), (3, .ptr 1 0 2), (4, .ptr 2 0 1), (5, .ptr 3 0 1), (6, .ptr 4 0 2), (7, .ptr 6 0 2)], [.c [.d (.i .i64 0), .e0, .d (.b false)], .c [.d (gramsD l), .d (.i .i64 n)], .c [.d (.i .i64 a)], .c [.fn (.func 53) [] [.ptr 0 0 3]], .c [.e0, .d (.i .i64 0)], .a (gramsD []), .c [.sl 5 0 3, .d (.i .i64 n)]], 35⟩ mixed rfl rfl rfl ?_ ?_ ?_
  · have nS := True.intro
    repeat' (first
     | ((with_reducible refine sg ?_); first
      | with_reducible rfl
      | with_reducible refine andT ?_ ?_
      | with_reducible exact Nat.beq_refl _
      | with_reducible exact fitsI_u8 _
      | ((with_reducible refine decide_eq_true ?_); first | omega | (simp only [SZl, nS]; omega))
      | decide
      | (simp [SZl, slc, allOneD, D.one, allOne, AV.one, nS]; done)
      | (simp [SZl, nS]; omega))
     | ((with_reducible refine gWl ?_); first
      | (refine Wl_isMv rfl ?_; refine Xmv eok rfl rfl rfl rfl ?_)
      | refine Xq eok rfl rfl rfl rfl ?_ ?_
      | refine Xn [0, 1, 2, 3, 4, 5, 6, 7, 8, 9, 18, 19, 20, 27] rfl ?_
      | refine Xa eok rfl rfl rfl rfl rfl ?_ ?_
      | refine Xw eok rfl rfl rfl rfl ?_ ?_
      | refine Xs rfl rfl rfl ?_
      | (refine Xsplit rfl rfl (fun hc => ?_) (fun hc => ?_) <;> (fail_if_success (with_reducible first | exact absurd (hc : true = false) (by decide) | exact absurd (hc : false = true) (by decide))) <;> (try simp only [decide_eq_true_eq, decide_eq_false_iff_not, Bool.not_eq_true', Bool.not_eq_false', beq_iff_eq, beq_eq_false_iff_ne, bne_iff_ne, bne_eq_false_iff_eq, ne_eq, Int.not_lt, Int.not_le, ge_iff_le, gt_iff_lt] at hc) <;> (try (exfalso; omega))))
     | ((with_reducible refine gWd ?_); first
      | (refine Wd_isMv rfl ?_; refine Ymv eok rfl rfl (fun _ => rfl) rfl rfl ?_)
      | refine Yp eok rfl rfl (fun _ => rfl) rfl rfl ?_ ?_
      | refine Yq rfl rfl rfl rfl rfl ?_ ?_
      | refine Ys rfl rfl rfl rfl ?_
      | refine Ya eok rfl rfl rfl rfl rfl rfl ?_ ?_
      | refine Yw eok rfl rfl rfl rfl rfl ?_ ?_
      | refine Yn [0, 1, 2, 3, 4, 5, 6, 7, 8, 9, 18, 19, 20, 27] [(0, 5), (1, 5), (0, 7), (1, 7)] mixed eok (by kernel_rfl) (by simp only [extraL]; repeat' (first | exact True.intro | refine And.intro ?_ ?_ | exact ⟨_, rfl, rfl⟩ | rfl)) rfl ?_
      | refine Yn2 [0, 1, 2, 3, 4, 5, 6, 7, 8, 9, 18, 19, 20, 27] [(0, 5), (1, 5), (0, 7), (1, 7)] eok (by kernel_rfl) (by simp only [extraL]; repeat' (first | exact True.intro | refine And.intro ?_ ?_ | exact ⟨_, rfl, rfl⟩ | rfl)) rfl ?_
      | (refine Ysplit rfl rfl (fun hc => ?_) (fun hc => ?_) <;> (fail_if_success (with_reducible first | exact absurd (hc : true = false) (by decide) | exact absurd (hc : false = true) (by decide))) <;> (try simp only [decide_eq_true_eq, decide_eq_false_iff_not, Bool.not_eq_true', Bool.not_eq_false', beq_iff_eq, beq_eq_false_iff_ne, bne_iff_ne, bne_eq_false_iff_eq, ne_eq, Int.not_lt, Int.not_le, ge_iff_le, gt_iff_lt] at hc) <;> (try (exfalso; omega))))
     | refine W_seq ?_
     | refine W_region ?_
     | refine W_any T.get ?_
     | refine W_skip ?_
     | refine W_ret ?_
     | refine W_block ?_
     | refine W_exit ?_
     | refine W_cond_t rfl ?_
     | refine W_cond_f rfl ?_
     | (refine W_cond rfl (fun hc => ?_) (fun hc => ?_) <;> (try simp only [decide_eq_true_eq, decide_eq_false_iff_not, Bool.not_eq_true', Bool.not_eq_false', beq_iff_eq, beq_eq_false_iff_ne, bne_iff_ne, bne_eq_false_iff_eq, ne_eq, Int.not_lt, Int.not_le, ge_iff_le, gt_iff_lt] at hc) <;> (try (exfalso; omega))))
    exact ⟨rfl, .inl rfl⟩
  · have nS := True.intro
    repeat' (first
     | ((with_reducible refine sg ?_); first
      | with_reducible rfl
      | with_reducible refine andT ?_ ?_
      | with_reducible exact Nat.beq_refl _
      | with_reducible exact fitsI_u8 _
      | ((with_reducible refine decide_eq_true ?_); first | omega | (simp only [SZl, nS]; omega))
      | decide
      | (simp [SZl, slc, allOneD, D.one, allOne, AV.one, nS]; done)
      | (simp [SZl, nS]; omega))
     | ((with_reducible refine gWl ?_); first
      | (refine Wl_isMv rfl ?_; refine Xmv eok rfl rfl rfl rfl ?_)
      | refine Xq eok rfl rfl rfl rfl ?_ ?_
      | refine Xn [0, 1, 2, 3, 4, 5, 6, 7, 8, 9, 18, 19, 20, 27] rfl ?_
      | refine Xa eok rfl rfl rfl rfl rfl ?_ ?_
      | refine Xw eok rfl rfl rfl rfl ?_ ?_
      | refine Xs rfl rfl rfl ?_
      | (refine Xsplit rfl rfl (fun hc => ?_) (fun hc => ?_) <;> (fail_if_success (with_reducible first | exact absurd (hc : true = false) (by decide) | exact absurd (hc : false = true) (by decide))) <;> (try simp only [decide_eq_true_eq, decide_eq_false_iff_not, Bool.not_eq_true', Bool.not_eq_false', beq_iff_eq, beq_eq_false_iff_ne, bne_iff_ne, bne_eq_false_iff_eq, ne_eq, Int.not_lt, Int.not_le, ge_iff_le, gt_iff_lt] at hc) <;> (try (exfalso; omega))))
     | ((with_reducible refine gWd ?_); first
      | (refine Wd_isMv rfl ?_; refine Ymv eok rfl rfl (fun _ => rfl) rfl rfl ?_)
      | refine Yp eok rfl rfl (fun _ => rfl) rfl rfl ?_ ?_
      | refine Yq rfl rfl rfl rfl rfl ?_ ?_
      | refine Ys rfl rfl rfl rfl ?_
      | refine Ya eok rfl rfl rfl rfl rfl rfl ?_ ?_
      | refine Yw eok rfl rfl rfl rfl rfl ?_ ?_
      | refine Yn [0, 1, 2, 3, 4, 5, 6, 7, 8, 9, 18, 19, 20, 27] [(0, 5), (1, 5), (2, 5), (3, 5), (0, 6), (1, 6)] mixed eok (by kernel_rfl) (by simp only [extraL]; repeat' (first | exact True.intro | refine And.intro ?_ ?_ | exact ⟨_, rfl, rfl⟩ | rfl)) rfl ?_
      | refine Yn2 [0, 1, 2, 3, 4, 5, 6, 7, 8, 9, 18, 19, 20, 27] [(0, 5), (1, 5), (2, 5), (3, 5), (0, 6), (1, 6)] eok (by kernel_rfl) (by simp only [extraL]; repeat' (first | exact True.intro | refine And.intro ?_ ?_ | exact ⟨_, rfl, rfl⟩ | rfl)) rfl ?_
      | (refine Ysplit rfl rfl (fun hc => ?_) (fun hc => ?_) <;> (fail_if_success (with_reducible first | exact absurd (hc : true = false) (by decide) | exact absurd (hc : false = true) (by decide))) <;> (try simp only [decide_eq_true_eq, decide_eq_false_iff_not, Bool.not_eq_true', Bool.not_eq_false', beq_iff_eq, beq_eq_false_iff_ne, bne_iff_ne, bne_eq_false_iff_eq, ne_eq, Int.not_lt, Int.not_le, ge_iff_le, gt_iff_lt] at hc) <;> (try (exfalso; omega))))
     | refine W_seq ?_
     | refine W_region ?_
     | refine W_any T.get ?_
     | refine W_skip ?_
     | refine W_ret ?_
     | refine W_block ?_
     | refine W_exit ?_
     | refine W_cond_t rfl ?_
     | refine W_cond_f rfl ?_
     | (refine W_cond rfl (fun hc => ?_) (fun hc => ?_) <;> (try simp only [decide_eq_true_eq, decide_eq_false_iff_not, Bool.not_eq_true', Bool.not_eq_false', beq_iff_eq, beq_eq_false_iff_ne, bne_iff_ne, bne_eq_false_iff_eq, ne_eq, Int.not_lt, Int.not_le, ge_iff_le, gt_iff_lt] at hc) <;> (try (exfalso; omega))))
    exact ⟨rfl, .inr rfl⟩
  have nS := True.intro
  repeat' (first
   | ((with_reducible refine sg ?_); first
    | with_reducible rfl
    | with_reducible refine andT ?_ ?_
    | with_reducible exact Nat.beq_refl _
    | with_reducible exact fitsI_u8 _
    | ((with_reducible refine decide_eq_true ?_); first | omega | (simp only [SZl, nS]; omega))
    | decide
    | (simp [SZl, slc, allOneD, D.one, allOne, AV.one, nS]; done)
    | (simp [SZl, nS]; omega))
   | ((with_reducible refine gWl ?_); first
    | (refine Wl_isMv rfl ?_; refine Xmv eok rfl rfl rfl rfl ?_)
    | refine Xq eok rfl rfl rfl rfl ?_ ?_
    | refine Xn [0, 1, 2, 3, 4, 5, 6, 7, 8, 9, 18, 19, 20, 27] rfl ?_
    | refine XD [] (gramsIt_fn l n) rfl rfl rfl (by repeat' (first | exact True.intro | refine And.intro rfl ?_)) rfl rfl rfl rfl ?_
    | refine Xa eok rfl rfl rfl rfl rfl ?_ ?_
    | refine Xw eok rfl rfl rfl rfl ?_ ?_
    | refine Xs rfl rfl rfl ?_
    | (refine Xsplit rfl rfl (fun hc => ?_) (fun hc => ?_) <;> (fail_if_success (with_reducible first | exact absurd (hc : true = false) (by decide) | exact absurd (hc : false = true) (by decide))) <;> (try simp only [decide_eq_true_eq, decide_eq_false_iff_not, Bool.not_eq_true', Bool.not_eq_false', beq_iff_eq, beq_eq_false_iff_ne, bne_iff_ne, bne_eq_false_iff_eq, ne_eq, Int.not_lt, Int.not_le, ge_iff_le, gt_iff_lt] at hc) <;> (try (exfalso; omega))))
   | ((with_reducible refine gWd ?_); first
    | (refine Wd_isMv rfl ?_; refine Ymv eok rfl rfl (fun _ => rfl) rfl rfl ?_)
    | refine Yp eok rfl rfl (fun _ => rfl) rfl rfl ?_ ?_
    | refine Yq rfl rfl rfl rfl rfl ?_ ?_
    | refine Ys rfl rfl rfl rfl ?_
    | refine YD [] (gramsIt_fn l n) rfl rfl rfl rfl (by repeat' (first | exact True.intro | refine And.intro rfl ?_)) rfl rfl rfl rfl ?_
    | refine Ya eok rfl rfl rfl rfl rfl rfl ?_ ?_
    | refine Yw eok rfl rfl rfl rfl rfl ?_ ?_
    | refine Yn [0, 1, 2, 3, 4, 5, 6, 7, 8, 9, 18, 19, 20, 27] [] mixed eok (by kernel_rfl) True.intro rfl ?_
    | (refine Ysplit rfl rfl (fun hc => ?_) (fun hc => ?_) <;> (fail_if_success (with_reducible first | exact absurd (hc : true = false) (by decide) | exact absurd (hc : false = true) (by decide))) <;> (try simp only [decide_eq_true_eq, decide_eq_false_iff_not, Bool.not_eq_true', Bool.not_eq_false', beq_iff_eq, beq_eq_false_iff_ne, bne_iff_ne, bne_eq_false_iff_eq, ne_eq, Int.not_lt, Int.not_le, ge_iff_le, gt_iff_lt] at hc) <;> (try (exfalso; omega))))
   | refine W_seq ?_
   | refine W_region ?_
   | refine W_any T.get ?_
   | refine W_skip ?_
   | refine W_ret ?_
   | refine W_block ?_
   | refine W_exit ?_
   | refine W_cond_t rfl ?_
   | refine W_cond_f rfl ?_
   | (refine W_cond rfl (fun hc => ?_) (fun hc => ?_) <;> (try simp only [decide_eq_true_eq, decide_eq_false_iff_not, Bool.not_eq_true', Bool.not_eq_false', beq_iff_eq, beq_eq_false_iff_ne, bne_iff_ne, bne_eq_false_iff_eq, ne_eq, Int.not_lt, Int.not_le, ge_iff_le, gt_iff_lt] at hc) <;> (try (exfalso; omega))))
  refine W_rangeX (K := fun r _ H' => H' = [.c [.d (.i .i64 g.to), .d (.by g.by_), .d (.b g.harmed)], .c [.d (gramsD l), .d (.i .i64 n)], .c [.d (.i .i64 a)], .c [.fn (.func 53) [] [.ptr 0 0 3]], .c [.e0, .d (.i .i64 0)], .a (gramsD (l.eraseIdx a)), .c [.sl 5 (l.eraseIdx a).length 3, .d (.i .i64 n)], .c [.d (gramsD l), .d (.i .i64 n)], .lp r]) rfl (by first | (simp only [NSl, NHl, Nat.reduceAdd, Int.reduceAdd, Int.reduceSub, Int.reduceMul, Int.reduceToNat]; done) | (simp only [NSl, NHl, Nat.reduceAdd, Int.reduceAdd, Int.reduceSub, Int.reduceMul, Int.reduceToNat]; rfl) | rfl) (by first | (simp only [NSl, NHl, Nat.reduceAdd, Int.reduceAdd, Int.reduceSub, Int.reduceMul, Int.reduceToNat]; done) | (simp only [NSl, NHl, Nat.reduceAdd, Int.reduceAdd, Int.reduceSub, Int.reduceMul, Int.reduceToNat]; rfl) | rfl) (fun r => (by first | (simp only [NSl, NHl, Nat.reduceAdd, Int.reduceAdd, Int.reduceSub, Int.reduceMul, Int.reduceToNat]; done) | (simp only [NSl, NHl, Nat.reduceAdd, Int.reduceAdd, Int.reduceSub, Int.reduceMul, Int.reduceToNat]; rfl) | rfl)) ?_ ?_
  · intro r hr
    refine FnT_of_G eok Try.func70 rfl rfl (Nat.le_of_ble_eq_true rfl) ?_
    have nS := True.intro
    repeat' (first
     | ((with_reducible refine sg ?_); first
      | with_reducible rfl
      | with_reducible refine andT ?_ ?_
      | with_reducible exact Nat.beq_refl _
      | with_reducible exact fitsI_u8 _
      | ((with_reducible refine decide_eq_true ?_); first | omega | (simp only [SZl, nS]; omega))
      | decide
      | (simp [SZl, slc, allOneD, D.one, allOne, AV.one, nS]; done)
      | (simp [SZl, nS]; omega))
     | ((with_reducible refine gWl ?_); first
      | (refine Wl_isMv rfl ?_; refine Xmv eok rfl rfl rfl rfl ?_)
      | refine Xq eok rfl rfl rfl rfl ?_ ?_
      | refine Xn [0, 1, 3, 4, 6, 7, 8, 9, 18] rfl ?_
      | refine Xa eok rfl rfl rfl rfl rfl ?_ ?_
      | refine Xw eok rfl rfl rfl rfl ?_ ?_)
     | refine W_seq ?_
     | refine W_region ?_
     | refine W_skip ?_
     | refine W_ret ?_
     | refine W_block ?_
     | refine W_exit ?_
     | refine W_cond_t rfl ?_
     | refine W_cond_f rfl ?_
     | (refine W_cond rfl (fun hc => ?_) (fun hc => ?_) <;> (try simp only [decide_eq_true_eq, decide_eq_false_iff_not, Bool.not_eq_true', Bool.not_eq_false', beq_iff_eq, beq_eq_false_iff_ne, bne_iff_ne, bne_eq_false_iff_eq, ne_eq, Int.not_lt, Int.not_le, ge_iff_le, gt_iff_lt] at hc) <;> (try (exfalso; omega))))
    have hk := And.intro (hr.ok (k := 8) rfl) (fun m k => tkc_ok g a k m)
    refine W_loopI (fun k => k ≤ l.length) (fun k : Nat => ⟨[(0, .yl 8), (1, .ptr 7 0 2), (6, .d (gramsD l)), (7, .d (.i .i64 l.length)), (8, .d (.i .i64 k))], [.c (tkc g a (k)), .c [.d (gramsD l), .d (.i .i64 n)], .c [.d (.i .i64 a)], .c [.fn (.func 53) [] [.ptr 0 0 3]], .c [.e0, .d (.i .i64 0)], .a (gramsD ((l.take (k)).eraseIdx a)), .c [.sl 5 ((l.take (k)).eraseIdx a).length 3, .d (.i .i64 n)], .c [.d (gramsD l), .d (.i .i64 n)], .lp r], 20⟩) (fun k => l.length - k) 0 (Nat.zero_le _) ?_ (Nat.le_refl _) ?_
    · exact TSub.cut rfl (by repeat' (first | exact True.intro | refine And.intro (by (first | rfl | ((with_reducible_and_instances refine congrArg (fun z => some (AV.d (D.i _ z))) ?_); omega) | (refine congrArg (fun z => some (AV.d (D.i _ z))) (?_ : (_ : Int) = _); omega) | (refine congrArg some ?_; simp only [List.take_zero, List.eraseIdx_nil, tkc_lo g (Nat.not_lt_zero a)]; done) | (refine congrArg some ?_; simp [List.take_zero, List.eraseIdx_nil, tkc_lo g (Nat.not_lt_zero a)]; done))) ?_)) (by repeat' (first | exact True.intro | refine And.intro (Or.inr rfl) ?_ | refine And.intro (Or.inl ⟨rfl, rfl⟩) ?_ | refine And.intro (Or.inr (by simp only [List.take_zero, List.eraseIdx_nil, tkc_lo g (Nat.not_lt_zero a)])) ?_ | refine And.intro (Or.inr (by simp [List.take_zero, List.eraseIdx_nil, tkc_lo g (Nat.not_lt_zero a)])) ?_)) (by first | rfl | (simp (decide := true) [heapOk, Blk.ok, AV.oks, AV.ok, hk]; done)) rfl
    intro k hkk
    have htl : ((l.take (k)).eraseIdx a).length ≤ 1000 := by exact Nat.le_trans (List.length_eraseIdx_le ..) (Nat.le_trans (List.length_take_le _ _) (by omega))
    by_cases hkl : k < l.length
    · obtain ⟨x, hx⟩ := get_of hkl
      have hb := small_get hs hx
      by_cases hka : k = a
      · subst hka
        rw [hg] at hx; cases hx
        have e1 : ((k : Int) != (k : Int)) = false := bne_self_eq_false' _
        rw [tkc_lo g (Nat.lt_irrefl k)]
        have nS := True.intro
        repeat' (first
         | ((with_reducible refine sg ?_); first
          | with_reducible rfl
          | with_reducible refine andT ?_ ?_
          | with_reducible exact Nat.beq_refl _
          | with_reducible exact fitsI_u8 _
          | ((with_reducible refine decide_eq_true ?_); first | omega | (simp only [SZl, nS]; omega))
          | decide
          | (simp [SZl, slc, allOneD, D.one, allOne, AV.one, nS]; done)
          | (simp [SZl, nS]; omega))
         | ((with_reducible refine gWl ?_); first
          | (refine Wl_isMv rfl ?_; refine Xmv eok rfl rfl rfl rfl ?_)
          | (refine Wl_isIx rfl ?_; refine Xix eok rfl rfl rfl rfl rfl (Int.natCast_nonneg _) (ix_map hg) ?_)
          | refine Xq eok rfl rfl rfl rfl ?_ ?_
          | refine Xn [0, 1, 3, 4, 6, 7, 8, 9, 18] rfl ?_
          | refine XF (ownGram_fn g hb) rfl rfl rfl rfl ?_
          | refine Xa eok rfl rfl rfl rfl rfl ?_ ?_
          | refine Xw eok rfl rfl rfl rfl ?_ ?_)
         | refine W_seq ?_
         | refine W_region ?_
         | refine W_skip ?_
         | refine W_ret ?_
         | refine W_block ?_
         | refine W_exit ?_
         | refine W_cond_t rfl ?_
         | refine W_cond_f rfl ?_
         | (refine W_cond rfl (fun hc => ?_) (fun hc => ?_) <;> (try simp only [decide_eq_true_eq, decide_eq_false_iff_not, Bool.not_eq_true', Bool.not_eq_false', beq_iff_eq, beq_eq_false_iff_ne, bne_iff_ne, bne_eq_false_iff_eq, ne_eq, Int.not_lt, Int.not_le, ge_iff_le, gt_iff_lt] at hc) <;> (try (exfalso; omega))))
        refine Xy (x := .d (.b true)) (H' := [.c [.d (.i .i64 g.to), .d (.by g.by_), .d (.b g.harmed)], .c [.d (gramsD l), .d (.i .i64 n)], .c [.d (.i .i64 k)], .c [.fn (.func 53) [] [.ptr 0 0 3]], .c [.e0, .d (.i .i64 0)], .a (gramsD ((l.take (k + 1)).eraseIdx k)), .c [.sl 5 ((l.take (k + 1)).eraseIdx k).length 3, .d (.i .i64 n)], .c [.d (gramsD l), .d (.i .i64 n)], .lp r, .c [.d (.i .i64 g.to), .d (.by g.by_), .d (.b g.harmed)], .c [.d (.i .i64 g.to), .d (.by g.by_), .d (.b g.harmed)]]) (YT_of_L hr rfl rfl rfl ?_) rfl rfl rfl rfl rfl ?_
        · have nS := True.intro
          repeat' (first
           | ((with_reducible refine sg ?_); first
            | with_reducible rfl
            | with_reducible refine andT ?_ ?_
            | with_reducible exact Nat.beq_refl _
            | with_reducible exact fitsI_u8 _
            | ((with_reducible refine decide_eq_true ?_); first | omega | (simp only [SZl, nS]; omega))
            | decide
            | (simp [SZl, slc, allOneD, D.one, allOne, AV.one, nS]; done)
            | (simp [SZl, nS]; omega))
           | ((with_reducible refine gWl ?_); first
            | (refine Wl_isMv rfl ?_; refine Xmv eok rfl rfl rfl rfl ?_)
            | refine Xq eok rfl rfl rfl rfl ?_ ?_
            | refine Xn [0, 1, 2, 3, 4, 5, 6, 7, 8, 9, 18, 19, 20, 27] rfl ?_
            | refine Xa eok rfl rfl rfl rfl rfl ?_ ?_
            | refine Xw eok rfl rfl rfl rfl ?_ ?_
            | refine Xs rfl rfl rfl ?_
            | (refine Xsplit rfl rfl (fun hc => ?_) (fun hc => ?_) <;> (fail_if_success (with_reducible first | exact absurd (hc : true = false) (by decide) | exact absurd (hc : false = true) (by decide))) <;> (try simp only [decide_eq_true_eq, decide_eq_false_iff_not, Bool.not_eq_true', Bool.not_eq_false', beq_iff_eq, beq_eq_false_iff_ne, bne_iff_ne, bne_eq_false_iff_eq, ne_eq, Int.not_lt, Int.not_le, ge_iff_le, gt_iff_lt] at hc) <;> (try (exfalso; omega))))
           | ((with_reducible refine gWd ?_); first
            | (refine Wd_isMv rfl ?_; refine Ymv eok rfl rfl (fun _ => rfl) rfl rfl ?_)
            | refine Yp eok rfl rfl (fun _ => rfl) rfl rfl ?_ ?_
            | refine Yq rfl rfl rfl rfl rfl ?_ ?_
            | refine Ys rfl rfl rfl rfl ?_
            | refine Ya eok rfl rfl rfl rfl rfl rfl ?_ ?_
            | refine Yw eok rfl rfl rfl rfl rfl ?_ ?_
            | refine Yn [0, 1, 2, 3, 4, 5, 6, 7, 8, 9, 18, 19, 20, 27] [] mixed eok (by kernel_rfl) True.intro rfl ?_
            | (refine Ysplit rfl rfl (fun hc => ?_) (fun hc => ?_) <;> (fail_if_success (with_reducible first | exact absurd (hc : true = false) (by decide) | exact absurd (hc : false = true) (by decide))) <;> (try simp only [decide_eq_true_eq, decide_eq_false_iff_not, Bool.not_eq_true', Bool.not_eq_false', beq_iff_eq, beq_eq_false_iff_ne, bne_iff_ne, bne_eq_false_iff_eq, ne_eq, Int.not_lt, Int.not_le, ge_iff_le, gt_iff_lt] at hc) <;> (try (exfalso; omega))))
           | refine W_seq ?_
           | refine W_region ?_
           | refine W_any T.get ?_
           | refine W_skip ?_
           | refine W_ret ?_
           | refine W_block ?_
           | refine W_exit ?_
           | refine W_cond_t rfl ?_
           | refine W_cond_f rfl ?_
           | (refine W_cond rfl (fun hc => ?_) (fun hc => ?_) <;> (try simp only [decide_eq_true_eq, decide_eq_false_iff_not, Bool.not_eq_true', Bool.not_eq_false', beq_iff_eq, beq_eq_false_iff_ne, bne_iff_ne, bne_eq_false_iff_eq, ne_eq, Int.not_lt, Int.not_le, ge_iff_le, gt_iff_lt] at hc) <;> (try (exfalso; omega))))
          refine ⟨rfl, W_hp (by first | (simp only [NSl, NHl, Nat.reduceAdd, Int.reduceAdd, Int.reduceSub, Int.reduceMul, Int.reduceToNat]; done) | (simp only [NSl, NHl, Nat.reduceAdd, Int.reduceAdd, Int.reduceSub, Int.reduceMul, Int.reduceToNat]; rfl) | rfl) ?_⟩
          have nS := e1
          repeat' (first
           | ((with_reducible refine sg ?_); first
            | with_reducible rfl
            | with_reducible refine andT ?_ ?_
            | with_reducible exact Nat.beq_refl _
            | with_reducible exact fitsI_u8 _
            | ((with_reducible refine decide_eq_true ?_); first | omega | (simp only [SZl, nS]; omega))
            | decide
            | (simp [SZl, slc, allOneD, D.one, allOne, AV.one, nS]; done)
            | (simp [SZl, nS]; omega))
           | ((with_reducible refine gWl ?_); first
            | (refine Wl_isMv rfl ?_; refine Xmv eok rfl rfl rfl rfl ?_)
            | refine Xq eok rfl rfl rfl rfl ?_ ?_
            | refine Xn [0, 1, 2, 3, 4, 5, 6, 7, 8, 9, 18, 19, 20, 27] rfl ?_
            | refine XD [10, 0] (take1_fn g.to g.by_ g.harmed) rfl rfl rfl (by repeat' (first | exact True.intro | refine And.intro rfl ?_)) rfl rfl rfl rfl ?_
            | refine Xa eok rfl rfl rfl rfl rfl ?_ ?_
            | refine Xw eok rfl rfl rfl rfl ?_ ?_
            | refine Xs rfl rfl rfl ?_
            | (refine Xsplit rfl rfl (fun hc => ?_) (fun hc => ?_) <;> (fail_if_success (with_reducible first | exact absurd (hc : true = false) (by decide) | exact absurd (hc : false = true) (by decide))) <;> (try simp only [decide_eq_true_eq, decide_eq_false_iff_not, Bool.not_eq_true', Bool.not_eq_false', beq_iff_eq, beq_eq_false_iff_ne, bne_iff_ne, bne_eq_false_iff_eq, ne_eq, Int.not_lt, Int.not_le, ge_iff_le, gt_iff_lt] at hc) <;> (try (exfalso; omega))))
           | ((with_reducible refine gWd ?_); first
            | (refine Wd_isMv rfl ?_; refine Ymv eok rfl rfl (fun _ => rfl) rfl rfl ?_)
            | refine Yp eok rfl rfl (fun _ => rfl) rfl rfl ?_ ?_
            | refine Yq rfl rfl rfl rfl rfl ?_ ?_
            | refine Ys rfl rfl rfl rfl ?_
            | refine YD [10, 0] (take1_fn g.to g.by_ g.harmed) rfl rfl rfl rfl (by repeat' (first | exact True.intro | refine And.intro rfl ?_)) rfl rfl rfl rfl ?_
            | refine Ya eok rfl rfl rfl rfl rfl rfl ?_ ?_
            | refine Yw eok rfl rfl rfl rfl rfl ?_ ?_
            | refine Yn [0, 1, 2, 3, 4, 5, 6, 7, 8, 9, 18, 19, 20, 27] [] mixed eok (by kernel_rfl) True.intro rfl ?_
            | (refine Ysplit rfl rfl (fun hc => ?_) (fun hc => ?_) <;> (fail_if_success (with_reducible first | exact absurd (hc : true = false) (by decide) | exact absurd (hc : false = true) (by decide))) <;> (try simp only [decide_eq_true_eq, decide_eq_false_iff_not, Bool.not_eq_true', Bool.not_eq_false', beq_iff_eq, beq_eq_false_iff_ne, bne_iff_ne, bne_eq_false_iff_eq, ne_eq, Int.not_lt, Int.not_le, ge_iff_le, gt_iff_lt] at hc) <;> (try (exfalso; omega))))
           | refine W_seq ?_
           | refine W_region ?_
           | refine W_any T.get ?_
           | refine W_skip ?_
           | refine W_ret ?_
           | refine W_block ?_
           | refine W_exit ?_
           | refine W_cond_t rfl ?_
           | refine W_cond_f rfl ?_
           | (refine W_cond rfl (fun hc => ?_) (fun hc => ?_) <;> (try simp only [decide_eq_true_eq, decide_eq_false_iff_not, Bool.not_eq_true', Bool.not_eq_false', beq_iff_eq, beq_eq_false_iff_ne, bne_iff_ne, bne_eq_false_iff_eq, ne_eq, Int.not_lt, Int.not_le, ge_iff_le, gt_iff_lt] at hc) <;> (try (exfalso; omega))))
          refine ⟨_, TSub.refl _, Nat.le_succ _, rfl, rfl, ?_⟩
          simp only [out_eq l k hg, gramsD, List.map_append, List.map_cons, List.map_nil, Gram.cells, List.length_append, List.length_map, List.length_cons, List.length_nil, List.set_cons_succ, List.set_cons_zero]
        · have nS := True.intro
          repeat' (first
           | ((with_reducible refine sg ?_); first
            | with_reducible rfl
            | with_reducible refine andT ?_ ?_
            | with_reducible exact Nat.beq_refl _
            | with_reducible exact fitsI_u8 _
            | ((with_reducible refine decide_eq_true ?_); first | omega | (simp only [SZl, nS]; omega))
            | decide
            | (simp [SZl, slc, allOneD, D.one, allOne, AV.one, nS]; done)
            | (simp [SZl, nS]; omega))
           | ((with_reducible refine gWl ?_); first
            | (refine Wl_isMv rfl ?_; refine Xmv eok rfl rfl rfl rfl ?_)
            | refine Xq eok rfl rfl rfl rfl ?_ ?_
            | refine Xn [0, 1, 3, 4, 6, 7, 8, 9, 18] rfl ?_
            | refine Xa eok rfl rfl rfl rfl rfl ?_ ?_
            | refine Xw eok rfl rfl rfl rfl ?_ ?_)
           | refine W_seq ?_
           | refine W_region ?_
           | refine W_skip ?_
           | refine W_ret ?_
           | refine W_block ?_
           | refine W_exit ?_
           | refine W_cond_t rfl ?_
           | refine W_cond_f rfl ?_
           | (refine W_cond rfl (fun hc => ?_) (fun hc => ?_) <;> (try simp only [decide_eq_true_eq, decide_eq_false_iff_not, Bool.not_eq_true', Bool.not_eq_false', beq_iff_eq, beq_eq_false_iff_ne, bne_iff_ne, bne_eq_false_iff_eq, ne_eq, Int.not_lt, Int.not_le, ge_iff_le, gt_iff_lt] at hc) <;> (try (exfalso; omega))))
          refine ⟨k + 1, hkl, by omega, Nat.le_refl _, ?_⟩
          exact TSub.cut rfl (by repeat' (first | exact True.intro | refine And.intro (by (first | rfl | ((with_reducible_and_instances refine congrArg (fun z => some (AV.d (D.i _ z))) ?_); omega) | (refine congrArg (fun z => some (AV.d (D.i _ z))) (?_ : (_ : Int) = _); omega) | (refine congrArg some ?_; simp only [out_eq l k hg, tkc_hi g (Nat.lt_succ_self k)]; done) | (refine congrArg some ?_; simp [out_eq l k hg, tkc_hi g (Nat.lt_succ_self k)]; done))) ?_)) (by repeat' (first | exact True.intro | refine And.intro (Or.inr rfl) ?_ | refine And.intro (Or.inl ⟨rfl, rfl⟩) ?_ | refine And.intro (Or.inr (by simp only [out_eq l k hg, tkc_hi g (Nat.lt_succ_self k)])) ?_ | refine And.intro (Or.inr (by simp [out_eq l k hg, tkc_hi g (Nat.lt_succ_self k)])) ?_)) (by first | rfl | (simp (decide := true) [heapOk, Blk.ok, AV.oks, AV.ok, hk]; done)) rfl
      · have e1 : ((k : Int) != (a : Int)) = true := by rw [bne_iff_ne]; omega
        have nS := True.intro
        repeat' (first
         | ((with_reducible refine sg ?_); first
          | with_reducible rfl
          | with_reducible refine andT ?_ ?_
          | with_reducible exact Nat.beq_refl _
          | with_reducible exact fitsI_u8 _
          | ((with_reducible refine decide_eq_true ?_); first | omega | (simp only [SZl, nS]; omega))
          | decide
          | (simp [SZl, slc, allOneD, D.one, allOne, AV.one, nS]; done)
          | (simp [SZl, nS]; omega))
         | ((with_reducible refine gWl ?_); first
          | (refine Wl_isMv rfl ?_; refine Xmv eok rfl rfl rfl rfl ?_)
          | (refine Wl_isIx rfl ?_; refine Xix eok rfl rfl rfl rfl rfl (Int.natCast_nonneg _) (ix_map hx) ?_)
          | refine Xq eok rfl rfl rfl rfl ?_ ?_
          | refine Xn [0, 1, 3, 4, 6, 7, 8, 9, 18] rfl ?_
          | refine XF (ownGram_fn x hb) rfl rfl rfl rfl ?_
          | refine Xa eok rfl rfl rfl rfl rfl ?_ ?_
          | refine Xw eok rfl rfl rfl rfl ?_ ?_)
         | refine W_seq ?_
         | refine W_region ?_
         | refine W_skip ?_
         | refine W_ret ?_
         | refine W_block ?_
         | refine W_exit ?_
         | refine W_cond_t rfl ?_
         | refine W_cond_f rfl ?_
         | (refine W_cond rfl (fun hc => ?_) (fun hc => ?_) <;> (try simp only [decide_eq_true_eq, decide_eq_false_iff_not, Bool.not_eq_true', Bool.not_eq_false', beq_iff_eq, beq_eq_false_iff_ne, bne_iff_ne, bne_eq_false_iff_eq, ne_eq, Int.not_lt, Int.not_le, ge_iff_le, gt_iff_lt] at hc) <;> (try (exfalso; omega))))
        refine Xy (x := .d (.b true)) (H' := [.c (tkc g a k), .c [.d (gramsD l), .d (.i .i64 n)], .c [.d (.i .i64 a)], .c [.fn (.func 53) [] [.ptr 0 0 3]], .c [.e0, .d (.i .i64 0)], .a (gramsD ((l.take (k + 1)).eraseIdx a)), .c [.sl 5 ((l.take (k + 1)).eraseIdx a).length 3, .d (.i .i64 n)], .c [.d (gramsD l), .d (.i .i64 n)], .lp r, .c [.d (.i .i64 x.to), .d (.by x.by_), .d (.b x.harmed)], .c [.d (.i .i64 x.to), .d (.by x.by_), .d (.b x.harmed)]]) (YT_of_L hr rfl rfl rfl ?_) rfl rfl rfl rfl rfl ?_
        · have nS := True.intro
          repeat' (first
           | ((with_reducible refine sg ?_); first
            | with_reducible rfl
            | with_reducible refine andT ?_ ?_
            | with_reducible exact Nat.beq_refl _
            | with_reducible exact fitsI_u8 _
            | ((with_reducible refine decide_eq_true ?_); first | omega | (simp only [SZl, nS]; omega))
            | decide
            | (simp [SZl, slc, allOneD, D.one, allOne, AV.one, nS]; done)
            | (simp [SZl, nS]; omega))
           | ((with_reducible refine gWl ?_); first
            | (refine Wl_isMv rfl ?_; refine Xmv eok rfl rfl rfl rfl ?_)
            | refine Xq eok rfl rfl rfl rfl ?_ ?_
            | refine Xn [0, 1, 2, 3, 4, 5, 6, 7, 8, 9, 18, 19, 20, 27] rfl ?_
            | refine Xa eok rfl rfl rfl rfl rfl ?_ ?_
            | refine Xw eok rfl rfl rfl rfl ?_ ?_
            | refine Xs rfl rfl rfl ?_
            | (refine Xsplit rfl rfl (fun hc => ?_) (fun hc => ?_) <;> (fail_if_success (with_reducible first | exact absurd (hc : true = false) (by decide) | exact absurd (hc : false = true) (by decide))) <;> (try simp only [decide_eq_true_eq, decide_eq_false_iff_not, Bool.not_eq_true', Bool.not_eq_false', beq_iff_eq, beq_eq_false_iff_ne, bne_iff_ne, bne_eq_false_iff_eq, ne_eq, Int.not_lt, Int.not_le, ge_iff_le, gt_iff_lt] at hc) <;> (try (exfalso; omega))))
           | ((with_reducible refine gWd ?_); first
            | (refine Wd_isMv rfl ?_; refine Ymv eok rfl rfl (fun _ => rfl) rfl rfl ?_)
            | refine Yp eok rfl rfl (fun _ => rfl) rfl rfl ?_ ?_
            | refine Yq rfl rfl rfl rfl rfl ?_ ?_
            | refine Ys rfl rfl rfl rfl ?_
            | refine Ya eok rfl rfl rfl rfl rfl rfl ?_ ?_
            | refine Yw eok rfl rfl rfl rfl rfl ?_ ?_
            | refine Yn [0, 1, 2, 3, 4, 5, 6, 7, 8, 9, 18, 19, 20, 27] [] mixed eok (by kernel_rfl) True.intro rfl ?_
            | (refine Ysplit rfl rfl (fun hc => ?_) (fun hc => ?_) <;> (fail_if_success (with_reducible first | exact absurd (hc : true = false) (by decide) | exact absurd (hc : false = true) (by decide))) <;> (try simp only [decide_eq_true_eq, decide_eq_false_iff_not, Bool.not_eq_true', Bool.not_eq_false', beq_iff_eq, beq_eq_false_iff_ne, bne_iff_ne, bne_eq_false_iff_eq, ne_eq, Int.not_lt, Int.not_le, ge_iff_le, gt_iff_lt] at hc) <;> (try (exfalso; omega))))
           | refine W_seq ?_
           | refine W_region ?_
           | refine W_any T.get ?_
           | refine W_skip ?_
           | refine W_ret ?_
           | refine W_block ?_
           | refine W_exit ?_
           | refine W_cond_t rfl ?_
           | refine W_cond_f rfl ?_
           | (refine W_cond rfl (fun hc => ?_) (fun hc => ?_) <;> (try simp only [decide_eq_true_eq, decide_eq_false_iff_not, Bool.not_eq_true', Bool.not_eq_false', beq_iff_eq, beq_eq_false_iff_ne, bne_iff_ne, bne_eq_false_iff_eq, ne_eq, Int.not_lt, Int.not_le, ge_iff_le, gt_iff_lt] at hc) <;> (try (exfalso; omega))))
          refine ⟨rfl, W_hp (by first | (simp only [NSl, NHl, Nat.reduceAdd, Int.reduceAdd, Int.reduceSub, Int.reduceMul, Int.reduceToNat]; done) | (simp only [NSl, NHl, Nat.reduceAdd, Int.reduceAdd, Int.reduceSub, Int.reduceMul, Int.reduceToNat]; rfl) | rfl) ?_⟩
          have nS := e1
          repeat' (first
           | ((with_reducible refine sg ?_); first
            | with_reducible rfl
            | with_reducible refine andT ?_ ?_
            | with_reducible exact Nat.beq_refl _
            | with_reducible exact fitsI_u8 _
            | ((with_reducible refine decide_eq_true ?_); first | omega | (simp only [SZl, nS]; omega))
            | decide
            | (simp [SZl, slc, allOneD, D.one, allOne, AV.one, nS]; done)
            | (simp [SZl, nS]; omega))
           | ((with_reducible refine gWl ?_); first
            | (refine Wl_isMv rfl ?_; refine Xmv eok rfl rfl rfl rfl ?_)
            | refine Xq eok rfl rfl rfl rfl ?_ ?_
            | refine Xn [0, 1, 2, 3, 4, 5, 6, 7, 8, 9, 18, 19, 20, 27] rfl ?_
            | refine Xa eok rfl rfl rfl rfl rfl ?_ ?_
            | refine Xw eok rfl rfl rfl rfl ?_ ?_
            | refine Xs rfl rfl rfl ?_
            | (refine Xsplit rfl rfl (fun hc => ?_) (fun hc => ?_) <;> (fail_if_success (with_reducible first | exact absurd (hc : true = false) (by decide) | exact absurd (hc : false = true) (by decide))) <;> (try simp only [decide_eq_true_eq, decide_eq_false_iff_not, Bool.not_eq_true', Bool.not_eq_false', beq_iff_eq, beq_eq_false_iff_ne, bne_iff_ne, bne_eq_false_iff_eq, ne_eq, Int.not_lt, Int.not_le, ge_iff_le, gt_iff_lt] at hc) <;> (try (exfalso; omega))))
           | ((with_reducible refine gWd ?_); first
            | (refine Wd_isMv rfl ?_; refine Ymv eok rfl rfl (fun _ => rfl) rfl rfl ?_)
            | refine Yp eok rfl rfl (fun _ => rfl) rfl rfl ?_ ?_
            | refine Yq rfl rfl rfl rfl rfl ?_ ?_
            | refine Ys rfl rfl rfl rfl ?_
            | refine Ya eok rfl rfl rfl rfl rfl rfl ?_ ?_
            | refine Yw eok rfl rfl rfl rfl rfl ?_ ?_
            | refine Yn [0, 1, 2, 3, 4, 5, 6, 7, 8, 9, 18, 19, 20, 27] [] mixed eok (by kernel_rfl) True.intro rfl ?_
            | (refine Ysplit rfl rfl (fun hc => ?_) (fun hc => ?_) <;> (fail_if_success (with_reducible first | exact absurd (hc : true = false) (by decide) | exact absurd (hc : false = true) (by decide))) <;> (try simp only [decide_eq_true_eq, decide_eq_false_iff_not, Bool.not_eq_true', Bool.not_eq_false', beq_iff_eq, beq_eq_false_iff_ne, bne_iff_ne, bne_eq_false_iff_eq, ne_eq, Int.not_lt, Int.not_le, ge_iff_le, gt_iff_lt] at hc) <;> (try (exfalso; omega))))
           | refine W_seq ?_
           | refine W_region ?_
           | refine W_any T.get ?_
           | refine W_skip ?_
           | refine W_ret ?_
           | refine W_block ?_
           | refine W_exit ?_
           | refine W_cond_t rfl ?_
           | refine W_cond_f rfl ?_
           | (refine W_cond rfl (fun hc => ?_) (fun hc => ?_) <;> (try simp only [decide_eq_true_eq, decide_eq_false_iff_not, Bool.not_eq_true', Bool.not_eq_false', beq_iff_eq, beq_eq_false_iff_ne, bne_iff_ne, bne_eq_false_iff_eq, ne_eq, Int.not_lt, Int.not_le, ge_iff_le, gt_iff_lt] at hc) <;> (try (exfalso; omega))))
          refine ⟨_, TSub.refl _, Nat.le_succ _, rfl, rfl, ?_⟩
          simp only [out_ne l a k hx hka, gramsD, List.map_append, List.map_cons, List.map_nil, Gram.cells, List.length_append, List.length_map, List.length_cons, List.length_nil, List.set_cons_succ, List.set_cons_zero]
        · have nS := True.intro
          repeat' (first
           | ((with_reducible refine sg ?_); first
            | with_reducible rfl
            | with_reducible refine andT ?_ ?_
            | with_reducible exact Nat.beq_refl _
            | with_reducible exact fitsI_u8 _
            | ((with_reducible refine decide_eq_true ?_); first | omega | (simp only [SZl, nS]; omega))
            | decide
            | (simp [SZl, slc, allOneD, D.one, allOne, AV.one, nS]; done)
            | (simp [SZl, nS]; omega))
           | ((with_reducible refine gWl ?_); first
            | (refine Wl_isMv rfl ?_; refine Xmv eok rfl rfl rfl rfl ?_)
            | refine Xq eok rfl rfl rfl rfl ?_ ?_
            | refine Xn [0, 1, 3, 4, 6, 7, 8, 9, 18] rfl ?_
            | refine Xa eok rfl rfl rfl rfl rfl ?_ ?_
            | refine Xw eok rfl rfl rfl rfl ?_ ?_)
           | refine W_seq ?_
           | refine W_region ?_
           | refine W_skip ?_
           | refine W_ret ?_
           | refine W_block ?_
           | refine W_exit ?_
           | refine W_cond_t rfl ?_
           | refine W_cond_f rfl ?_
           | (refine W_cond rfl (fun hc => ?_) (fun hc => ?_) <;> (try simp only [decide_eq_true_eq, decide_eq_false_iff_not, Bool.not_eq_true', Bool.not_eq_false', beq_iff_eq, beq_eq_false_iff_ne, bne_iff_ne, bne_eq_false_iff_eq, ne_eq, Int.not_lt, Int.not_le, ge_iff_le, gt_iff_lt] at hc) <;> (try (exfalso; omega))))
          refine ⟨k + 1, hkl, by omega, Nat.le_refl _, ?_⟩
          exact TSub.cut rfl (by repeat' (first | exact True.intro | refine And.intro (by (first | rfl | ((with_reducible_and_instances refine congrArg (fun z => some (AV.d (D.i _ z))) ?_); omega) | (refine congrArg (fun z => some (AV.d (D.i _ z))) (?_ : (_ : Int) = _); omega) | (refine congrArg some ?_; simp only [out_ne l a k hx hka, tkc_ne g hka]; done) | (refine congrArg some ?_; simp [out_ne l a k hx hka, tkc_ne g hka]; done))) ?_)) (by repeat' (first | exact True.intro | refine And.intro (Or.inr rfl) ?_ | refine And.intro (Or.inl ⟨rfl, rfl⟩) ?_ | refine And.intro (Or.inr (by simp only [out_ne l a k hx hka, tkc_ne g hka])) ?_ | refine And.intro (Or.inr (by simp [out_ne l a k hx hka, tkc_ne g hka])) ?_)) (by first | rfl | (simp (decide := true) [heapOk, Blk.ok, AV.oks, AV.ok, hk]; done)) rfl

    · have e : k = l.length := by omega
      subst e
      have nS := True.intro
      repeat' (first
       | ((with_reducible refine sg ?_); first
        | with_reducible rfl
        | with_reducible refine andT ?_ ?_
        | with_reducible exact Nat.beq_refl _
        | with_reducible exact fitsI_u8 _
        | ((with_reducible refine decide_eq_true ?_); first | omega | (simp only [SZl, nS]; omega))
        | decide
        | (simp [SZl, slc, allOneD, D.one, allOne, AV.one, nS]; done)
        | (simp [SZl, nS]; omega))
       | ((with_reducible refine gWl ?_); first
        | (refine Wl_isMv rfl ?_; refine Xmv eok rfl rfl rfl rfl ?_)
        | refine Xq eok rfl rfl rfl rfl ?_ ?_
        | refine Xn [0, 1, 3, 4, 6, 7, 8, 9, 18] rfl ?_
        | refine Xa eok rfl rfl rfl rfl rfl ?_ ?_
        | refine Xw eok rfl rfl rfl rfl ?_ ?_)
       | refine W_seq ?_
       | refine W_region ?_
       | refine W_skip ?_
       | refine W_ret ?_
       | refine W_block ?_
       | refine W_exit ?_
       | refine W_cond_t rfl ?_
       | refine W_cond_f rfl ?_
       | (refine W_cond rfl (fun hc => ?_) (fun hc => ?_) <;> (try simp only [decide_eq_true_eq, decide_eq_false_iff_not, Bool.not_eq_true', Bool.not_eq_false', beq_iff_eq, beq_eq_false_iff_ne, bne_iff_ne, bne_eq_false_iff_eq, ne_eq, Int.not_lt, Int.not_le, ge_iff_le, gt_iff_lt] at hc) <;> (try (exfalso; omega))))
      refine ⟨_, TSub.refl _, Nat.le_refl _, _, _, rfl, rfl, ?_⟩
      simp only [List.take_length, tkc_hi g (List.getElem?_eq_some_iff.1 hg).1]
  · rintro r hr x H' rfl
    refine .inl ⟨rfl, ?_⟩
    have nS := True.intro
    repeat' (first
     | ((with_reducible refine sg ?_); first
      | with_reducible rfl
      | with_reducible refine andT ?_ ?_
      | with_reducible exact Nat.beq_refl _
      | with_reducible exact fitsI_u8 _
      | ((with_reducible refine decide_eq_true ?_); first | omega | (simp only [SZl, nS]; omega))
      | decide
      | (simp [SZl, slc, allOneD, D.one, allOne, AV.one, nS]; done)
      | (simp [SZl, nS]; omega))
     | ((with_reducible refine gWl ?_); first
      | (refine Wl_isMv rfl ?_; refine Xmv eok rfl rfl rfl rfl ?_)
      | refine Xq eok rfl rfl rfl rfl ?_ ?_
      | refine Xn [0, 1, 2, 3, 4, 5, 6, 7, 8, 9, 18, 19, 20, 27] rfl ?_
      | refine Xa eok rfl rfl rfl rfl rfl ?_ ?_
      | refine Xw eok rfl rfl rfl rfl ?_ ?_
      | refine Xs rfl rfl rfl ?_
      | (refine Xsplit rfl rfl (fun hc => ?_) (fun hc => ?_) <;> (fail_if_success (with_reducible first | exact absurd (hc : true = false) (by decide) | exact absurd (hc : false = true) (by decide))) <;> (try simp only [decide_eq_true_eq, decide_eq_false_iff_not, Bool.not_eq_true', Bool.not_eq_false', beq_iff_eq, beq_eq_false_iff_ne, bne_iff_ne, bne_eq_false_iff_eq, ne_eq, Int.not_lt, Int.not_le, ge_iff_le, gt_iff_lt] at hc) <;> (try (exfalso; omega))))
     | ((with_reducible refine gWd ?_); first
      | (refine Wd_isMv rfl ?_; refine Ymv eok rfl rfl (fun _ => rfl) rfl rfl ?_)
      | refine Yp eok rfl rfl (fun _ => rfl) rfl rfl ?_ ?_
      | refine Yq rfl rfl rfl rfl rfl ?_ ?_
      | refine Ys rfl rfl rfl rfl ?_
      | refine Ya eok rfl rfl rfl rfl rfl rfl ?_ ?_
      | refine Yw eok rfl rfl rfl rfl rfl ?_ ?_
      | refine Yn [0, 1, 2, 3, 4, 5, 6, 7, 8, 9, 18, 19, 20, 27] [] mixed eok (by kernel_rfl) True.intro rfl ?_
      | (refine Ysplit rfl rfl (fun hc => ?_) (fun hc => ?_) <;> (fail_if_success (with_reducible first | exact absurd (hc : true = false) (by decide) | exact absurd (hc : false = true) (by decide))) <;> (try simp only [decide_eq_true_eq, decide_eq_false_iff_not, Bool.not_eq_true', Bool.not_eq_false', beq_iff_eq, beq_eq_false_iff_ne, bne_iff_ne, bne_eq_false_iff_eq, ne_eq, Int.not_lt, Int.not_le, ge_iff_le, gt_iff_lt] at hc) <;> (try (exfalso; omega))))
     | refine W_seq ?_
     | refine W_region ?_
     | refine W_any T.get ?_
     | refine W_skip ?_
     | refine W_ret ?_
     | refine W_block ?_
     | refine W_exit ?_
     | refine W_cond_t rfl ?_
     | refine W_cond_f rfl ?_
     | (refine W_cond rfl (fun hc => ?_) (fun hc => ?_) <;> (try simp only [decide_eq_true_eq, decide_eq_false_iff_not, Bool.not_eq_true', Bool.not_eq_false', beq_iff_eq, beq_eq_false_iff_ne, bne_iff_ne, bne_eq_false_iff_eq, ne_eq, Int.not_lt, Int.not_le, ge_iff_le, gt_iff_lt] at hc) <;> (try (exfalso; omega))))
    exact ⟨⟨[(6, .ptr 4 0 2)], [.c [.d (.i .i64 g.to), .d (.by g.by_), .d (.b g.harmed)], .gone, .gone, .gone, .c [.sl 5 (l.eraseIdx a).length 3, .d (.i .i64 n)], .a (gramsD (l.eraseIdx a))], Try.f52.ntmps⟩, (TSub.cut rfl (by repeat' (first | exact True.intro | refine And.intro (by (first | rfl | ((with_reducible_and_instances refine congrArg (fun z => some (AV.d (D.i _ z))) ?_); omega) | (refine congrArg (fun z => some (AV.d (D.i _ z))) (?_ : (_ : Int) = _); omega) | (refine congrArg some ?_; simp; done))) ?_)) (by repeat' (first | exact True.intro | refine And.intro (Or.inr rfl) ?_ | refine And.intro (Or.inl ⟨rfl, rfl⟩) ?_ | refine And.intro (Or.inr (by simp)) ?_)) (by first | rfl | (simp (decide := true) [heapOk, Blk.ok, AV.oks, AV.ok, hk]; done)) rfl), Nat.le_of_ble_eq_true rfl, _, _, rfl, rfl, rfl, rfl⟩
end Go.Proofs.Ytgnddlldcglpfaa
