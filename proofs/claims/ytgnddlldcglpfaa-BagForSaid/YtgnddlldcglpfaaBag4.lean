/- Written by a program (pre.py) from the source of the same name. -/
/- Bags: harm. -/
import Derived.Test.YtgnddlldcglpfaaBag3
set_option linter.unusedSimpArgs false
set_option linter.unusedVariables false
set_option linter.unnecessarySimpa false
namespace Go.Proofs.Ytgnddlldcglpfaa
open Go.Gar
set_option maxRecDepth 4000

/-- Two bytes put together. -/
def xorB (u : UInt8) (m : Int) : Int := bitsI .xor .u8 (u.toNat : Int) m
theorem xorB_lt (u : UInt8) (m : Int) : 0 ≤ xorB u m ∧ xorB u m < 256 := by
  unfold xorB bitsI
  simp only [kwrap_u8]
  omega
def harmB (y : List UInt8) (i : Nat) (m : Int) : List UInt8 := y.set i (UInt8.ofNat (xorB (y.getD i 0) m).toNat)

theorem harm1_fn (t : Int) (y : List UInt8) (h : Bool) (i : Nat) (m : Int) (hi : i < y.length) (hl : y.length ≤ 100000) : FnD Try.prog 57 [.ptr 0 0 3, .ptr 1 0 1, .ptr 2 0 1] [.c [.d (.i .i64 t), .sl 3 y.length 1, .d (.b h)], .c [.d (.i .i64 i)], .c [.d (.i .u8 m)], .a (.by y)] (.d (.b true))
    [.c [.d (.i .i64 t), .sl 3 y.length 1, .d (.b true)], .c [.d (.i .i64 i)], .c [.d (.i .u8 m)], .a (.by (harmB y i m))] := by
  have hx := xorB_lt (y.getD i 0) m
  unfold xorB at hx
  refine FnD_of_W eok Try.func57 rfl rfl (Nat.le_of_ble_eq_true rfl) ?_
  have e1 : (slc (D.by y)).getD (i * 1) D.np = D.i .u8 ((y.getD i 0).toNat : Int) := by
    rw [Nat.mul_one]; simp only [slc, List.getD_eq_getElem?_getD, List.getElem?_map, List.getElem?_eq_getElem hi, Option.map_some, Option.getD_some]
  have nS := e1
  repeat' (first
   | ((with_reducible refine sg ?_); first
    | with_reducible rfl
    | with_reducible refine andT ?_ ?_
    | with_reducible exact Nat.beq_refl _
    | with_reducible exact fitsI_u8 _
    | ((with_reducible refine decide_eq_true ?_); first | omega | (simp only [SZl, nS]; omega))
    | decide
    | (simp [SZl, slc, allOneD, D.one, allOne, AV.one, nS]; done)
    | (simp [SZl, nS]; omega))
   | ((with_reducible refine gWl ?_); first
    | (refine Wl_isMv rfl ?_; refine Xmv eok rfl rfl rfl rfl ?_)
    | refine Xq eok rfl rfl rfl rfl ?_ ?_
    | refine Xn [0, 1, 2, 4] rfl ?_
    | refine Xw eok rfl rfl rfl rfl ?_ ?_
    | refine Xsb eok rfl rfl rfl rfl ?_ ?_)
   | ((with_reducible refine gWd ?_); first
    | (refine Wd_isMv rfl ?_; refine Ymv eok rfl rfl (fun _ => rfl) rfl rfl ?_)
    | refine Yp eok rfl rfl (fun _ => rfl) rfl rfl ?_ ?_
    | refine Yq rfl rfl rfl rfl rfl ?_ ?_
    | refine Ys rfl rfl rfl rfl ?_
    | refine Ya eok rfl rfl rfl rfl rfl rfl ?_ ?_
    | refine Yw eok rfl rfl rfl rfl rfl ?_ ?_
    | refine Ysb eok rfl rfl rfl rfl rfl ?_ ?_
    | refine Yn [0, 1, 2, 4] [] mixed eok (by kernel_rfl) True.intro rfl ?_)
   | refine W_seq ?_
   | refine W_region ?_
   | refine W_any T.get ?_
   | refine W_skip ?_
   | refine W_ret ?_
   | refine W_block ?_
   | refine W_exit ?_
   | refine W_cond_t rfl ?_
   | refine W_cond_f rfl ?_
   | (refine W_cond rfl (fun hc => ?_) (fun hc => ?_) <;> (try simp only [decide_eq_true_eq, decide_eq_false_iff_not, Bool.not_eq_true', Bool.not_eq_false', beq_iff_eq, beq_eq_false_iff_ne, bne_iff_ne, bne_eq_false_iff_eq, ne_eq, Int.not_lt, Int.not_le, ge_iff_le, gt_iff_lt] at hc) <;> (try (exfalso; omega))))
  exact ⟨_, TSub.refl _, Nat.le_refl _, _, _, rfl, rfl, rfl, rfl⟩
def harmG (g : Gram) (i : Nat) (m : Int) : Gram := ⟨g.to, harmB g.by_ i m, true⟩
theorem harmB_len (y : List UInt8) (i : Nat) (m : Int) : (harmB y i m).length = y.length := by simp [harmB]

set_option maxHeartbeats 8000000 in
theorem withHarm_fn (l : List Gram) (n : Int) (a : Nat) (g : Gram) (hg : l[a]? = some g) (i : Nat) (m : Int) (hi : i < g.by_.length) (hl : l.length ≤ 1000) (hs : small l) :
    FnD Try.prog 52 [.d (Bag.d ⟨l, n⟩), .d (.i .i64 a), .fn (.func 57) [] [.ptr 0 0 1, .ptr 1 0 1]] [.c [.d (.i .i64 i)], .c [.d (.i .u8 m)]] (.ag [.sl 6 (l.set a (harmG g i m)).length 3, .d (.i .i64 n)]) [.c [.d (.i .i64 i)], .c [.d (.i .u8 m)], .gone, .gone, .gone, .c [.sl 6 (l.set a (harmG g i m)).length 3, .d (.i .i64 n)], .a (gramsD (l.set a (harmG g i m)))] := by
  refine FnD_of_W eok Try.func52 rfl rfl (Nat.le_of_ble_eq_true rfl) ?_
  have nS := True.intro
  repeat' (first
   | ((with_reducible refine sg ?_); first
    | with_reducible rfl
    | with_reducible refine andT ?_ ?_
    | with_reducible exact Nat.beq_refl _
    | with_reducible exact fitsI_u8 _
    | ((with_reducible refine decide_eq_true ?_); first | omega | (simp only [SZl, nS]; omega))
    | decide
    | (simp [SZl, slc, allOneD, D.one, allOne, AV.one, nS]; done)
    | (simp [SZl, nS]; omega))
   | ((with_reducible refine gWl ?_); first
    | (refine Wl_isMv rfl ?_; refine Xmv eok rfl rfl rfl rfl ?_)
    | refine Xq eok rfl rfl rfl rfl ?_ ?_
    | refine Xn [0, 1, 2, 3, 4, 5, 6, 7, 8, 9, 18, 19, 20, 27] rfl ?_
    | refine Xa eok rfl rfl rfl rfl rfl ?_ ?_
    | refine Xw eok rfl rfl rfl rfl ?_ ?_
    | refine Xs rfl rfl rfl ?_
    | (refine Xsplit rfl rfl (fun hc => ?_) (fun hc => ?_) <;> (fail_if_success (with_reducible first | exact absurd (hc : true = false) (by decide) | exact absurd (hc : false = true) (by decide))) <;> (try simp only [decide_eq_true_eq, decide_eq_false_iff_not, Bool.not_eq_true', Bool.not_eq_false', beq_iff_eq, beq_eq_false_iff_ne, bne_iff_ne, bne_eq_false_iff_eq, ne_eq, Int.not_lt, Int.not_le, ge_iff_le, gt_iff_lt] at hc) <;> (try (exfalso; omega))))
   | ((with_reducible refine gWd ?_); first
    | (refine Wd_isMv rfl ?_; refine Ymv eok rfl rfl (fun _ => rfl) rfl rfl ?_)
    | refine Yp eok rfl rfl (fun _ => rfl) rfl rfl ?_ ?_
    | refine Yq rfl rfl rfl rfl rfl ?_ ?_
    | refine Ys rfl rfl rfl rfl ?_
    | refine Ya eok rfl rfl rfl rfl rfl rfl ?_ ?_
    | refine Yw eok rfl rfl rfl rfl rfl ?_ ?_
    | refine Yn [0, 1, 2, 3, 4, 5, 6, 7, 8, 9, 18, 19, 20, 27] [] mixed eok (by kernel_rfl) True.intro rfl ?_
    | (refine Ysplit rfl rfl (fun hc => ?_) (fun hc => ?_) <;> (fail_if_success (with_reducible first | exact absurd (hc : true = false) (by decide) | exact absurd (hc : false = true) (by decide))) <;> (try simp only [decide_eq_true_eq, decide_eq_false_iff_not, Bool.not_eq_true', Bool.not_eq_false', beq_iff_eq, beq_eq_false_iff_ne, bne_iff_ne, bne_eq_false_iff_eq, ne_eq, Int.not_lt, Int.not_le, ge_iff_le, gt_iff_lt] at hc) <;> (try (exfalso; omega))))
   | refine W_seq ?_
   | refine W_regionS [1] rfl ?_
   | refine W_anyS [1] T.get rfl ?_
   | refine W_skip ?_
   | refine W_ret ?_
   | refine W_block ?_
   | refine W_exit ?_
   | refine W_cond_t rfl ?_
   | refine W_cond_f rfl ?_
   | (refine W_cond rfl (fun hc => ?_) (fun hc => ?_) <;> (try simp only [decide_eq_true_eq, decide_eq_false_iff_not, Bool.not_eq_true', Bool.not_eq_false', beq_iff_eq, beq_eq_false_iff_ne, bne_iff_ne, bne_eq_false_iff_eq, ne_eq, Int.not_lt, Int.not_le, ge_iff_le, gt_iff_lt] at hc) <;> (try (exfalso; omega))))
  refine W_any2 T.get 5 7 6 7 ⟨[(0, .d (Bag.d ⟨l, n⟩)), (1, .d (.i .i64 a)), (2, .fn (.func 57) [] [.ptr 0 0 1, .ptr 1 0 1]), (3, .ptr 2 0 2), (4, .ptr 3 0 1), (5, .ptr 4 0 1), (6, .ptr 5 0 2), (7, .ptr 7 0 2)], [.c [.d (.i .i64 i)], .c [.d (.i .u8 m)], .c [.d (gramsD l), .d (.i .i64 n)], .c [.d (.i .i64 a)], .c [.fn (.func 57) [] [.ptr 0 0 1, .ptr 1 0 1]], .c [.e0, .d (.i .i64 0)], .a (gramsD []), .c [.sl 6 0 3, .d (.i .i64 n)]], 35⟩ mixed rfl rfl rfl ?_ ?_ ?_
  · have nS := True.intro
    repeat' (first
     | ((with_reducible refine sg ?_); first
      | with_reducible rfl
      | with_reducible refine andT ?_ ?_
      | with_reducible exact Nat.beq_refl _
      | with_reducible exact fitsI_u8 _
      | ((with_reducible refine decide_eq_true ?_); first | omega | (simp only [SZl, nS]; omega))
      | decide
      | (simp [SZl, slc, allOneD, D.one, allOne, AV.one, nS]; done)
      | (simp [SZl, nS]; omega))
     | ((with_reducible refine gWl ?_); first
      | (refine Wl_isMv rfl ?_; refine Xmv eok rfl rfl rfl rfl ?_)
      | refine Xq eok rfl rfl rfl rfl ?_ ?_
      | refine Xn [0, 1, 2, 3, 4, 5, 6, 7, 8, 9, 18, 19, 20, 27] rfl ?_
      | refine Xa eok rfl rfl rfl rfl rfl ?_ ?_
      | refine Xw eok rfl rfl rfl rfl ?_ ?_
      | refine Xs rfl rfl rfl ?_
      | (refine Xsplit rfl rfl (fun hc => ?_) (fun hc => ?_) <;> (fail_if_success (with_reducible first | exact absurd (hc : true = false) (by decide) | exact absurd (hc : false = true) (by decide))) <;> (try simp only [decide_eq_true_eq, decide_eq_false_iff_not, Bool.not_eq_true', Bool.not_eq_false', beq_iff_eq, beq_eq_false_iff_ne, bne_iff_ne, bne_eq_false_iff_eq, ne_eq, Int.not_lt, Int.not_le, ge_iff_le, gt_iff_lt] at hc) <;> (try (exfalso; omega))))
     | ((with_reducible refine gWd ?_); first
      | (refine Wd_isMv rfl ?_; refine Ymv eok rfl rfl (fun _ => rfl) rfl rfl ?_)
      | refine Yp eok rfl rfl (fun _ => rfl) rfl rfl ?_ ?_
      | refine Yq rfl rfl rfl rfl rfl ?_ ?_
      | refine Ys rfl rfl rfl rfl ?_
      | refine Ya eok rfl rfl rfl rfl rfl rfl ?_ ?_
      | refine Yw eok rfl rfl rfl rfl rfl ?_ ?_
      | refine Yn [0, 1, 2, 3, 4, 5, 6, 7, 8, 9, 18, 19, 20, 27] [(0, 5), (1, 5), (0, 7), (1, 7)] mixed eok (by kernel_rfl) (by simp only [extraL]; repeat' (first | exact True.intro | refine And.intro ?_ ?_ | exact ⟨_, rfl, rfl⟩ | rfl)) rfl ?_
      | refine Yn2 [0, 1, 2, 3, 4, 5, 6, 7, 8, 9, 18, 19, 20, 27] [(0, 5), (1, 5), (0, 7), (1, 7)] eok (by kernel_rfl) (by simp only [extraL]; repeat' (first | exact True.intro | refine And.intro ?_ ?_ | exact ⟨_, rfl, rfl⟩ | rfl)) rfl ?_
      | (refine Ysplit rfl rfl (fun hc => ?_) (fun hc => ?_) <;> (fail_if_success (with_reducible first | exact absurd (hc : true = false) (by decide) | exact absurd (hc : false = true) (by decide))) <;> (try simp only [decide_eq_true_eq, decide_eq_false_iff_not, Bool.not_eq_true', Bool.not_eq_false', beq_iff_eq, beq_eq_false_iff_ne, bne_iff_ne, bne_eq_false_iff_eq, ne_eq, Int.not_lt, Int.not_le, ge_iff_le, gt_iff_lt] at hc) <;> (try (exfalso; omega))))
     | refine W_seq ?_
     | refine W_region ?_
     | refine W_any T.get ?_
     | refine W_skip ?_
     | refine W_ret ?_
     | refine W_block ?_
     | refine W_exit ?_
     | refine W_cond_t rfl ?_
     | refine W_cond_f rfl ?_
     | (refine W_cond rfl (fun hc => ?_) (fun hc => ?_) <;> (try simp only [decide_eq_true_eq, decide_eq_false_iff_not, Bool.not_eq_true', Bool.not_eq_false', beq_iff_eq, beq_eq_false_iff_ne, bne_iff_ne, bne_eq_false_iff_eq, ne_eq, Int.not_lt, Int.not_le, ge_iff_le, gt_iff_lt] at hc) <;> (try (exfalso; omega))))
    exact ⟨rfl, .inl rfl⟩
  · have nS := True.intro
    repeat' (first
     | ((with_reducible refine sg ?_); first
      | with_reducible rfl
      | with_reducible refine andT ?_ ?_
      | with_reducible exact Nat.beq_refl _
      | with_reducible exact fitsI_u8 _
      | ((with_reducible refine decide_eq_true ?_); first | omega | (simp only [SZl, nS]; omega))
      | decide
      | (simp [SZl, slc, allOneD, D.one, allOne, AV.one, nS]; done)
      | (simp [SZl, nS]; omega))
     | ((with_reducible refine gWl ?_); first
      | (refine Wl_isMv rfl ?_; refine Xmv eok rfl rfl rfl rfl ?_)
      | refine Xq eok rfl rfl rfl rfl ?_ ?_
      | refine Xn [0, 1, 2, 3, 4, 5, 6, 7, 8, 9, 18, 19, 20, 27] rfl ?_
      | refine Xa eok rfl rfl rfl rfl rfl ?_ ?_
      | refine Xw eok rfl rfl rfl rfl ?_ ?_
      | refine Xs rfl rfl rfl ?_
      | (refine Xsplit rfl rfl (fun hc => ?_) (fun hc => ?_) <;> (fail_if_success (with_reducible first | exact absurd (hc : true = false) (by decide) | exact absurd (hc : false = true) (by decide))) <;> (try simp only [decide_eq_true_eq, decide_eq_false_iff_not, Bool.not_eq_true', Bool.not_eq_false', beq_iff_eq, beq_eq_false_iff_ne, bne_iff_ne, bne_eq_false_iff_eq, ne_eq, Int.not_lt, Int.not_le, ge_iff_le, gt_iff_lt] at hc) <;> (try (exfalso; omega))))
     | ((with_reducible refine gWd ?_); first
      | (refine Wd_isMv rfl ?_; refine Ymv eok rfl rfl (fun _ => rfl) rfl rfl ?_)
      | refine Yp eok rfl rfl (fun _ => rfl) rfl rfl ?_ ?_
      | refine Yq rfl rfl rfl rfl rfl ?_ ?_
      | refine Ys rfl rfl rfl rfl ?_
      | refine Ya eok rfl rfl rfl rfl rfl rfl ?_ ?_
      | refine Yw eok rfl rfl rfl rfl rfl ?_ ?_
      | refine Yn [0, 1, 2, 3, 4, 5, 6, 7, 8, 9, 18, 19, 20, 27] [(0, 5), (1, 5), (2, 5), (3, 5), (0, 6), (1, 6)] mixed eok (by kernel_rfl) (by simp only [extraL]; repeat' (first | exact True.intro | refine And.intro ?_ ?_ | exact ⟨_, rfl, rfl⟩ | rfl)) rfl ?_
      | refine Yn2 [0, 1, 2, 3, 4, 5, 6, 7, 8, 9, 18, 19, 20, 27] [(0, 5), (1, 5), (2, 5), (3, 5), (0, 6), (1, 6)] eok (by kernel_rfl) (by simp only [extraL]; repeat' (first | exact True.intro | refine And.intro ?_ ?_ | exact ⟨_, rfl, rfl⟩ | rfl)) rfl ?_
      | (refine Ysplit rfl rfl (fun hc => ?_) (fun hc => ?_) <;> (fail_if_success (with_reducible first | exact absurd (hc : true = false) (by decide) | exact absurd (hc : false = true) (by decide))) <;> (try simp only [decide_eq_true_eq, decide_eq_false_iff_not, Bool.not_eq_true', Bool.not_eq_false', beq_iff_eq, beq_eq_false_iff_ne, bne_iff_ne, bne_eq_false_iff_eq, ne_eq, Int.not_lt, Int.not_le, ge_iff_le, gt_iff_lt] at hc) <;> (try (exfalso; omega))))
     | refine W_seq ?_
     | refine W_region ?_
     | refine W_any T.get ?_
     | refine W_skip ?_
     | refine W_ret ?_
     | refine W_block ?_
     | refine W_exit ?_
     | refine W_cond_t rfl ?_
     | refine W_cond_f rfl ?_
     | (refine W_cond rfl (fun hc => ?_) (fun hc => ?_) <;> (try simp only [decide_eq_true_eq, decide_eq_false_iff_not, Bool.not_eq_true', Bool.not_eq_false', beq_iff_eq, beq_eq_false_iff_ne, bne_iff_ne, bne_eq_false_iff_eq, ne_eq, Int.not_lt, Int.not_le, ge_iff_le, gt_iff_lt] at hc) <;> (try (exfalso; omega))))
    exact ⟨rfl, .inr rfl⟩
  have nS := True.intro
  repeat' (first
   | ((with_reducible refine sg ?_); first
    | with_reducible rfl
    | with_reducible refine andT ?_ ?_
    | with_reducible exact Nat.beq_refl _
    | with_reducible exact fitsI_u8 _
    | ((with_reducible refine decide_eq_true ?_); first | omega | (simp only [SZl, nS]; omega))
    | decide
    | (simp [SZl, slc, allOneD, D.one, allOne, AV.one, nS]; done)
    | (simp [SZl, nS]; omega))
   | ((with_reducible refine gWl ?_); first
    | (refine Wl_isMv rfl ?_; refine Xmv eok rfl rfl rfl rfl ?_)
    | refine Xq eok rfl rfl rfl rfl ?_ ?_
    | refine Xn [0, 1, 2, 3, 4, 5, 6, 7, 8, 9, 18, 19, 20, 27] rfl ?_
    | refine XD [] (gramsIt_fn l n) rfl rfl rfl (by repeat' (first | exact True.intro | refine And.intro rfl ?_)) rfl rfl rfl rfl ?_
    | refine Xa eok rfl rfl rfl rfl rfl ?_ ?_
    | refine Xw eok rfl rfl rfl rfl ?_ ?_
    | refine Xs rfl rfl rfl ?_
    | (refine Xsplit rfl rfl (fun hc => ?_) (fun hc => ?_) <;> (fail_if_success (with_reducible first | exact absurd (hc : true = false) (by decide) | exact absurd (hc : false = true) (by decide))) <;> (try simp only [decide_eq_true_eq, decide_eq_false_iff_not, Bool.not_eq_true', Bool.not_eq_false', beq_iff_eq, beq_eq_false_iff_ne, bne_iff_ne, bne_eq_false_iff_eq, ne_eq, Int.not_lt, Int.not_le, ge_iff_le, gt_iff_lt] at hc) <;> (try (exfalso; omega))))
   | ((with_reducible refine gWd ?_); first
    | (refine Wd_isMv rfl ?_; refine Ymv eok rfl rfl (fun _ => rfl) rfl rfl ?_)
    | refine Yp eok rfl rfl (fun _ => rfl) rfl rfl ?_ ?_
    | refine Yq rfl rfl rfl rfl rfl ?_ ?_
    | refine Ys rfl rfl rfl rfl ?_
    | refine YD [] (gramsIt_fn l n) rfl rfl rfl rfl (by repeat' (first | exact True.intro | refine And.intro rfl ?_)) rfl rfl rfl rfl ?_
    | refine Ya eok rfl rfl rfl rfl rfl rfl ?_ ?_
    | refine Yw eok rfl rfl rfl rfl rfl ?_ ?_
    | refine Yn [0, 1, 2, 3, 4, 5, 6, 7, 8, 9, 18, 19, 20, 27] [] mixed eok (by kernel_rfl) True.intro rfl ?_
    | (refine Ysplit rfl rfl (fun hc => ?_) (fun hc => ?_) <;> (fail_if_success (with_reducible first | exact absurd (hc : true = false) (by decide) | exact absurd (hc : false = true) (by decide))) <;> (try simp only [decide_eq_true_eq, decide_eq_false_iff_not, Bool.not_eq_true', Bool.not_eq_false', beq_iff_eq, beq_eq_false_iff_ne, bne_iff_ne, bne_eq_false_iff_eq, ne_eq, Int.not_lt, Int.not_le, ge_iff_le, gt_iff_lt] at hc) <;> (try (exfalso; omega))))
   | refine W_seq ?_
   | refine W_region ?_
   | refine W_any T.get ?_
   | refine W_skip ?_
   | refine W_ret ?_
   | refine W_block ?_
   | refine W_exit ?_
   | refine W_cond_t rfl ?_
   | refine W_cond_f rfl ?_
   | (refine W_cond rfl (fun hc => ?_) (fun hc => ?_) <;> (try simp only [decide_eq_true_eq, decide_eq_false_iff_not, Bool.not_eq_true', Bool.not_eq_false', beq_iff_eq, beq_eq_false_iff_ne, bne_iff_ne, bne_eq_false_iff_eq, ne_eq, Int.not_lt, Int.not_le, ge_iff_le, gt_iff_lt] at hc) <;> (try (exfalso; omega))))
  refine W_rangeX (K := fun r _ H' => H' = [.c [.d (.i .i64 i)], .c [.d (.i .u8 m)], .c [.d (gramsD l), .d (.i .i64 n)], .c [.d (.i .i64 a)], .c [.fn (.func 57) [] [.ptr 0 0 1, .ptr 1 0 1]], .c [.e0, .d (.i .i64 0)], .a (gramsD (l.set a (harmG g i m))), .c [.sl 6 (l.set a (harmG g i m)).length 3, .d (.i .i64 n)], .c [.d (gramsD l), .d (.i .i64 n)], .lp r]) rfl (by first | (simp only [NSl, NHl, Nat.reduceAdd, Int.reduceAdd, Int.reduceSub, Int.reduceMul, Int.reduceToNat]; done) | (simp only [NSl, NHl, Nat.reduceAdd, Int.reduceAdd, Int.reduceSub, Int.reduceMul, Int.reduceToNat]; rfl) | rfl) (by first | (simp only [NSl, NHl, Nat.reduceAdd, Int.reduceAdd, Int.reduceSub, Int.reduceMul, Int.reduceToNat]; done) | (simp only [NSl, NHl, Nat.reduceAdd, Int.reduceAdd, Int.reduceSub, Int.reduceMul, Int.reduceToNat]; rfl) | rfl) (fun r => (by first | (simp only [NSl, NHl, Nat.reduceAdd, Int.reduceAdd, Int.reduceSub, Int.reduceMul, Int.reduceToNat]; done) | (simp only [NSl, NHl, Nat.reduceAdd, Int.reduceAdd, Int.reduceSub, Int.reduceMul, Int.reduceToNat]; rfl) | rfl)) ?_ ?_
  · intro r hr
    refine FnT_of_G eok Try.func70 rfl rfl (Nat.le_of_ble_eq_true rfl) ?_
    have nS := True.intro
    repeat' (first
     | ((with_reducible refine sg ?_); first
      | with_reducible rfl
      | with_reducible refine andT ?_ ?_
      | with_reducible exact Nat.beq_refl _
      | with_reducible exact fitsI_u8 _
      | ((with_reducible refine decide_eq_true ?_); first | omega | (simp only [SZl, nS]; omega))
      | decide
      | (simp [SZl, slc, allOneD, D.one, allOne, AV.one, nS]; done)
      | (simp [SZl, nS]; omega))
     | ((with_reducible refine gWl ?_); first
      | (refine Wl_isMv rfl ?_; refine Xmv eok rfl rfl rfl rfl ?_)
      | refine Xq eok rfl rfl rfl rfl ?_ ?_
      | refine Xn [0, 1, 3, 4, 6, 7, 8, 9, 18] rfl ?_
      | refine Xa eok rfl rfl rfl rfl rfl ?_ ?_
      | refine Xw eok rfl rfl rfl rfl ?_ ?_)
     | refine W_seq ?_
     | refine W_region ?_
     | refine W_skip ?_
     | refine W_ret ?_
     | refine W_block ?_
     | refine W_exit ?_
     | refine W_cond_t rfl ?_
     | refine W_cond_f rfl ?_
     | (refine W_cond rfl (fun hc => ?_) (fun hc => ?_) <;> (try simp only [decide_eq_true_eq, decide_eq_false_iff_not, Bool.not_eq_true', Bool.not_eq_false', beq_iff_eq, beq_eq_false_iff_ne, bne_iff_ne, bne_eq_false_iff_eq, ne_eq, Int.not_lt, Int.not_le, ge_iff_le, gt_iff_lt] at hc) <;> (try (exfalso; omega))))
    have hk := hr.ok (k := 9) rfl
    refine W_loopI (fun k => k ≤ l.length) (fun k : Nat => ⟨[(0, .yl 9), (1, .ptr 8 0 2), (6, .d (gramsD l)), (7, .d (.i .i64 l.length)), (8, .d (.i .i64 k))], [.c [.d (.i .i64 i)], .c [.d (.i .u8 m)], .c [.d (gramsD l), .d (.i .i64 n)], .c [.d (.i .i64 a)], .c [.fn (.func 57) [] [.ptr 0 0 1, .ptr 1 0 1]], .c [.e0, .d (.i .i64 0)], .a (gramsD ((l.set a (harmG g i m)).take (k))), .c [.sl 6 ((l.set a (harmG g i m)).take (k)).length 3, .d (.i .i64 n)], .c [.d (gramsD l), .d (.i .i64 n)], .lp r], 20⟩) (fun k => l.length - k) 0 (Nat.zero_le _) ?_ (Nat.le_refl _) ?_
    · exact TSub.cut rfl (by repeat' (first | exact True.intro | refine And.intro (by (first | rfl | ((with_reducible_and_instances refine congrArg (fun z => some (AV.d (D.i _ z))) ?_); omega) | (refine congrArg (fun z => some (AV.d (D.i _ z))) (?_ : (_ : Int) = _); omega) | (refine congrArg some ?_; simp only [List.take_zero]; done) | (refine congrArg some ?_; simp [List.take_zero]; done))) ?_)) (by repeat' (first | exact True.intro | refine And.intro (Or.inr rfl) ?_ | refine And.intro (Or.inl ⟨rfl, rfl⟩) ?_ | refine And.intro (Or.inr (by simp only [List.take_zero])) ?_ | refine And.intro (Or.inr (by simp [List.take_zero])) ?_)) (by first | rfl | (simp (decide := true) [heapOk, Blk.ok, AV.oks, AV.ok, hk]; done)) rfl
    intro k hkk
    have htl : ((l.set a (harmG g i m)).take (k)).length ≤ 1000 := by exact Nat.le_trans (List.length_take_le _ _) (by omega)
    by_cases hkl : k < l.length
    · obtain ⟨x, hx⟩ := get_of hkl
      have hb := small_get hs hx
      by_cases hka : k = a
      · subst hka
        rw [hg] at hx; cases hx
        have hx : (l.set k (harmG g i m))[k]? = some ⟨g.to, harmB g.by_ i m, true⟩ := by rw [List.getElem?_set_self hkl]; rfl
        have e1 : ((k : Int) != (k : Int)) = false := bne_self_eq_false' _
        have nS := True.intro
        repeat' (first
         | ((with_reducible refine sg ?_); first
          | with_reducible rfl
          | with_reducible refine andT ?_ ?_
          | with_reducible exact Nat.beq_refl _
          | with_reducible exact fitsI_u8 _
          | ((with_reducible refine decide_eq_true ?_); first | omega | (simp only [SZl, nS]; omega))
          | decide
          | (simp [SZl, slc, allOneD, D.one, allOne, AV.one, nS]; done)
          | (simp [SZl, nS]; omega))
         | ((with_reducible refine gWl ?_); first
          | (refine Wl_isMv rfl ?_; refine Xmv eok rfl rfl rfl rfl ?_)
          | (refine Wl_isIx rfl ?_; refine Xix eok rfl rfl rfl rfl rfl (Int.natCast_nonneg _) (ix_map hg) ?_)
          | refine Xq eok rfl rfl rfl rfl ?_ ?_
          | refine Xn [0, 1, 3, 4, 6, 7, 8, 9, 18] rfl ?_
          | refine XD [] (ownGram_own g.to g.by_ g.harmed hb) rfl rfl rfl (by repeat' (first | exact True.intro | refine And.intro rfl ?_)) rfl rfl rfl rfl ?_
          | refine Xa eok rfl rfl rfl rfl rfl ?_ ?_
          | refine Xw eok rfl rfl rfl rfl ?_ ?_)
         | refine W_seq ?_
         | refine W_region ?_
         | refine W_skip ?_
         | refine W_ret ?_
         | refine W_block ?_
         | refine W_exit ?_
         | refine W_cond_t rfl ?_
         | refine W_cond_f rfl ?_
         | (refine W_cond rfl (fun hc => ?_) (fun hc => ?_) <;> (try simp only [decide_eq_true_eq, decide_eq_false_iff_not, Bool.not_eq_true', Bool.not_eq_false', beq_iff_eq, beq_eq_false_iff_ne, bne_iff_ne, bne_eq_false_iff_eq, ne_eq, Int.not_lt, Int.not_le, ge_iff_le, gt_iff_lt] at hc) <;> (try (exfalso; omega))))
        refine Xy (x := .d (.b true)) (H' := [.c [.d (.i .i64 i)], .c [.d (.i .u8 m)], .c [.d (gramsD l), .d (.i .i64 n)], .c [.d (.i .i64 k)], .c [.fn (.func 57) [] [.ptr 0 0 1, .ptr 1 0 1]], .c [.e0, .d (.i .i64 0)], .a (gramsD ((l.set k (harmG g i m)).take (k + 1))), .c [.sl 6 ((l.set k (harmG g i m)).take (k + 1)).length 3, .d (.i .i64 n)], .c [.d (gramsD l), .d (.i .i64 n)], .lp r, .c [.d (.i .i64 g.to), .d (.by g.by_), .d (.b g.harmed)], .gone, .c [.d (.i .i64 g.to), .d (.by (harmB g.by_ i m)), .d (.b g.harmed)], .gone, .c [.d (.i .i64 g.to), .d (.by (harmB g.by_ i m)), .d (.b true)]]) (YT_of_L hr rfl rfl rfl ?_) rfl rfl rfl rfl rfl ?_
        · have nS := True.intro
          repeat' (first
           | ((with_reducible refine sg ?_); first
            | with_reducible rfl
            | with_reducible refine andT ?_ ?_
            | with_reducible exact Nat.beq_refl _
            | with_reducible exact fitsI_u8 _
            | ((with_reducible refine decide_eq_true ?_); first | omega | (simp only [SZl, nS]; omega))
            | decide
            | (simp [SZl, slc, allOneD, D.one, allOne, AV.one, nS]; done)
            | (simp [SZl, nS]; omega))
           | ((with_reducible refine gWl ?_); first
            | (refine Wl_isMv rfl ?_; refine Xmv eok rfl rfl rfl rfl ?_)
            | refine Xq eok rfl rfl rfl rfl ?_ ?_
            | refine Xn [0, 1, 2, 3, 4, 5, 6, 7, 8, 9, 18, 19, 20, 27] rfl ?_
            | refine Xa eok rfl rfl rfl rfl rfl ?_ ?_
            | refine Xw eok rfl rfl rfl rfl ?_ ?_
            | refine Xs rfl rfl rfl ?_
            | (refine Xsplit rfl rfl (fun hc => ?_) (fun hc => ?_) <;> (fail_if_success (with_reducible first | exact absurd (hc : true = false) (by decide) | exact absurd (hc : false = true) (by decide))) <;> (try simp only [decide_eq_true_eq, decide_eq_false_iff_not, Bool.not_eq_true', Bool.not_eq_false', beq_iff_eq, beq_eq_false_iff_ne, bne_iff_ne, bne_eq_false_iff_eq, ne_eq, Int.not_lt, Int.not_le, ge_iff_le, gt_iff_lt] at hc) <;> (try (exfalso; omega))))
           | ((with_reducible refine gWd ?_); first
            | (refine Wd_isMv rfl ?_; refine Ymv eok rfl rfl (fun _ => rfl) rfl rfl ?_)
            | refine Yp eok rfl rfl (fun _ => rfl) rfl rfl ?_ ?_
            | refine Yq rfl rfl rfl rfl rfl ?_ ?_
            | refine Ys rfl rfl rfl rfl ?_
            | refine Ya eok rfl rfl rfl rfl rfl rfl ?_ ?_
            | refine Yw eok rfl rfl rfl rfl rfl ?_ ?_
            | refine Yn [0, 1, 2, 3, 4, 5, 6, 7, 8, 9, 18, 19, 20, 27] [] mixed eok (by kernel_rfl) True.intro rfl ?_
            | (refine Ysplit rfl rfl (fun hc => ?_) (fun hc => ?_) <;> (fail_if_success (with_reducible first | exact absurd (hc : true = false) (by decide) | exact absurd (hc : false = true) (by decide))) <;> (try simp only [decide_eq_true_eq, decide_eq_false_iff_not, Bool.not_eq_true', Bool.not_eq_false', beq_iff_eq, beq_eq_false_iff_ne, bne_iff_ne, bne_eq_false_iff_eq, ne_eq, Int.not_lt, Int.not_le, ge_iff_le, gt_iff_lt] at hc) <;> (try (exfalso; omega))))
           | refine W_seq ?_
           | refine W_region ?_
           | refine W_any T.get ?_
           | refine W_skip ?_
           | refine W_ret ?_
           | refine W_block ?_
           | refine W_exit ?_
           | refine W_cond_t rfl ?_
           | refine W_cond_f rfl ?_
           | (refine W_cond rfl (fun hc => ?_) (fun hc => ?_) <;> (try simp only [decide_eq_true_eq, decide_eq_false_iff_not, Bool.not_eq_true', Bool.not_eq_false', beq_iff_eq, beq_eq_false_iff_ne, bne_iff_ne, bne_eq_false_iff_eq, ne_eq, Int.not_lt, Int.not_le, ge_iff_le, gt_iff_lt] at hc) <;> (try (exfalso; omega))))
          refine ⟨rfl, W_hp (by first | (simp only [NSl, NHl, Nat.reduceAdd, Int.reduceAdd, Int.reduceSub, Int.reduceMul, Int.reduceToNat]; done) | (simp only [NSl, NHl, Nat.reduceAdd, Int.reduceAdd, Int.reduceSub, Int.reduceMul, Int.reduceToNat]; rfl) | rfl) ?_⟩
          have nS := e1
          repeat' (first
           | ((with_reducible refine sg ?_); first
            | with_reducible rfl
            | with_reducible refine andT ?_ ?_
            | with_reducible exact Nat.beq_refl _
            | with_reducible exact fitsI_u8 _
            | ((with_reducible refine decide_eq_true ?_); first | omega | (simp only [SZl, nS]; omega))
            | decide
            | (simp [SZl, slc, allOneD, D.one, allOne, AV.one, nS]; done)
            | (simp [SZl, nS]; omega))
           | ((with_reducible refine gWl ?_); first
            | (refine Wl_isMv rfl ?_; refine Xmv eok rfl rfl rfl rfl ?_)
            | refine Xq eok rfl rfl rfl rfl ?_ ?_
            | refine Xn [0, 1, 2, 3, 4, 5, 6, 7, 8, 9, 18, 19, 20, 27] rfl ?_
            | refine XD [14, 0, 1, 13] (harm1_fn g.to g.by_ g.harmed i m hi hb) rfl rfl rfl (by repeat' (first | exact True.intro | refine And.intro rfl ?_)) rfl rfl rfl rfl ?_
            | refine Xa eok rfl rfl rfl rfl rfl ?_ ?_
            | refine Xw eok rfl rfl rfl rfl ?_ ?_
            | refine Xs rfl rfl rfl ?_
            | (refine Xsplit rfl rfl (fun hc => ?_) (fun hc => ?_) <;> (fail_if_success (with_reducible first | exact absurd (hc : true = false) (by decide) | exact absurd (hc : false = true) (by decide))) <;> (try simp only [decide_eq_true_eq, decide_eq_false_iff_not, Bool.not_eq_true', Bool.not_eq_false', beq_iff_eq, beq_eq_false_iff_ne, bne_iff_ne, bne_eq_false_iff_eq, ne_eq, Int.not_lt, Int.not_le, ge_iff_le, gt_iff_lt] at hc) <;> (try (exfalso; omega))))
           | ((with_reducible refine gWd ?_); first
            | (refine Wd_isMv rfl ?_; refine Ymv eok rfl rfl (fun _ => rfl) rfl rfl ?_)
            | refine Yp eok rfl rfl (fun _ => rfl) rfl rfl ?_ ?_
            | refine Yq rfl rfl rfl rfl rfl ?_ ?_
            | refine Ys rfl rfl rfl rfl ?_
            | refine YD [14, 0, 1, 13] (harm1_fn g.to g.by_ g.harmed i m hi hb) rfl rfl rfl rfl (by repeat' (first | exact True.intro | refine And.intro rfl ?_)) rfl rfl rfl rfl ?_
            | refine Ya eok rfl rfl rfl rfl rfl rfl ?_ ?_
            | refine Yw eok rfl rfl rfl rfl rfl ?_ ?_
            | refine Yn [0, 1, 2, 3, 4, 5, 6, 7, 8, 9, 18, 19, 20, 27] [] mixed eok (by kernel_rfl) True.intro rfl ?_
            | (refine Ysplit rfl rfl (fun hc => ?_) (fun hc => ?_) <;> (fail_if_success (with_reducible first | exact absurd (hc : true = false) (by decide) | exact absurd (hc : false = true) (by decide))) <;> (try simp only [decide_eq_true_eq, decide_eq_false_iff_not, Bool.not_eq_true', Bool.not_eq_false', beq_iff_eq, beq_eq_false_iff_ne, bne_iff_ne, bne_eq_false_iff_eq, ne_eq, Int.not_lt, Int.not_le, ge_iff_le, gt_iff_lt] at hc) <;> (try (exfalso; omega))))
           | refine W_seq ?_
           | refine W_regionS [6] rfl ?_
           | refine W_anyS [6] T.get rfl ?_
           | refine W_skip ?_
           | refine W_ret ?_
           | refine W_block ?_
           | refine W_exit ?_
           | refine W_cond_t rfl ?_
           | refine W_cond_f rfl ?_
           | (refine W_cond rfl (fun hc => ?_) (fun hc => ?_) <;> (try simp only [decide_eq_true_eq, decide_eq_false_iff_not, Bool.not_eq_true', Bool.not_eq_false', beq_iff_eq, beq_eq_false_iff_ne, bne_iff_ne, bne_eq_false_iff_eq, ne_eq, Int.not_lt, Int.not_le, ge_iff_le, gt_iff_lt] at hc) <;> (try (exfalso; omega))))
          refine W_ghost (TSub.freeze 13 (x := .by (harmB g.by_ i m)) rfl) (by rw [frzH_len]; exact Nat.le_refl _) ?_
          simp only [frzE, frzH, Blk.frz, AV.frz, AV.frzs, nbeq, Nat.reduceEqDiff, Nat.reduceAdd, decide_true, decide_false, sln, harmB_len, if_true, if_false, reduceCtorEq]
          have nS := e1
          repeat' (first
           | ((with_reducible refine sg ?_); first
            | with_reducible rfl
            | with_reducible refine andT ?_ ?_
            | with_reducible exact Nat.beq_refl _
            | with_reducible exact fitsI_u8 _
            | ((with_reducible refine decide_eq_true ?_); first | omega | (simp only [SZl, nS]; omega))
            | decide
            | (simp [SZl, slc, allOneD, D.one, allOne, AV.one, nS]; done)
            | (simp [SZl, nS]; omega))
           | ((with_reducible refine gWl ?_); first
            | (refine Wl_isMv rfl ?_; refine Xmv eok rfl rfl rfl rfl ?_)
            | refine Xq eok rfl rfl rfl rfl ?_ ?_
            | refine Xn [0, 1, 2, 3, 4, 5, 6, 7, 8, 9, 18, 19, 20, 27] rfl ?_
            | refine Xa eok rfl rfl rfl rfl rfl ?_ ?_
            | refine Xw eok rfl rfl rfl rfl ?_ ?_
            | refine Xs rfl rfl rfl ?_
            | (refine Xsplit rfl rfl (fun hc => ?_) (fun hc => ?_) <;> (fail_if_success (with_reducible first | exact absurd (hc : true = false) (by decide) | exact absurd (hc : false = true) (by decide))) <;> (try simp only [decide_eq_true_eq, decide_eq_false_iff_not, Bool.not_eq_true', Bool.not_eq_false', beq_iff_eq, beq_eq_false_iff_ne, bne_iff_ne, bne_eq_false_iff_eq, ne_eq, Int.not_lt, Int.not_le, ge_iff_le, gt_iff_lt] at hc) <;> (try (exfalso; omega))))
           | ((with_reducible refine gWd ?_); first
            | (refine Wd_isMv rfl ?_; refine Ymv eok rfl rfl (fun _ => rfl) rfl rfl ?_)
            | refine Yp eok rfl rfl (fun _ => rfl) rfl rfl ?_ ?_
            | refine Yq rfl rfl rfl rfl rfl ?_ ?_
            | refine Ys rfl rfl rfl rfl ?_
            | refine Ya eok rfl rfl rfl rfl rfl rfl ?_ ?_
            | refine Yw eok rfl rfl rfl rfl rfl ?_ ?_
            | refine Yn [0, 1, 2, 3, 4, 5, 6, 7, 8, 9, 18, 19, 20, 27] [] mixed eok (by kernel_rfl) True.intro rfl ?_
            | (refine Ysplit rfl rfl (fun hc => ?_) (fun hc => ?_) <;> (fail_if_success (with_reducible first | exact absurd (hc : true = false) (by decide) | exact absurd (hc : false = true) (by decide))) <;> (try simp only [decide_eq_true_eq, decide_eq_false_iff_not, Bool.not_eq_true', Bool.not_eq_false', beq_iff_eq, beq_eq_false_iff_ne, bne_iff_ne, bne_eq_false_iff_eq, ne_eq, Int.not_lt, Int.not_le, ge_iff_le, gt_iff_lt] at hc) <;> (try (exfalso; omega))))
           | refine W_seq ?_
           | refine W_region ?_
           | refine W_any T.get ?_
           | refine W_skip ?_
           | refine W_ret ?_
           | refine W_block ?_
           | refine W_exit ?_
           | refine W_cond_t rfl ?_
           | refine W_cond_f rfl ?_
           | (refine W_cond rfl (fun hc => ?_) (fun hc => ?_) <;> (try simp only [decide_eq_true_eq, decide_eq_false_iff_not, Bool.not_eq_true', Bool.not_eq_false', beq_iff_eq, beq_eq_false_iff_ne, bne_iff_ne, bne_eq_false_iff_eq, ne_eq, Int.not_lt, Int.not_le, ge_iff_le, gt_iff_lt] at hc) <;> (try (exfalso; omega))))
          refine ⟨_, TSub.refl _, Nat.le_succ _, rfl, rfl, ?_⟩
          simp only [take_succ_of hx, gramsD, List.map_append, List.map_cons, List.map_nil, Gram.cells, List.length_append, List.length_map, List.length_cons, List.length_nil, List.set_cons_succ, List.set_cons_zero]
        · have nS := True.intro
          repeat' (first
           | ((with_reducible refine sg ?_); first
            | with_reducible rfl
            | with_reducible refine andT ?_ ?_
            | with_reducible exact Nat.beq_refl _
            | with_reducible exact fitsI_u8 _
            | ((with_reducible refine decide_eq_true ?_); first | omega | (simp only [SZl, nS]; omega))
            | decide
            | (simp [SZl, slc, allOneD, D.one, allOne, AV.one, nS]; done)
            | (simp [SZl, nS]; omega))
           | ((with_reducible refine gWl ?_); first
            | (refine Wl_isMv rfl ?_; refine Xmv eok rfl rfl rfl rfl ?_)
            | refine Xq eok rfl rfl rfl rfl ?_ ?_
            | refine Xn [0, 1, 3, 4, 6, 7, 8, 9, 18] rfl ?_
            | refine Xa eok rfl rfl rfl rfl rfl ?_ ?_
            | refine Xw eok rfl rfl rfl rfl ?_ ?_)
           | refine W_seq ?_
           | refine W_region ?_
           | refine W_skip ?_
           | refine W_ret ?_
           | refine W_block ?_
           | refine W_exit ?_
           | refine W_cond_t rfl ?_
           | refine W_cond_f rfl ?_
           | (refine W_cond rfl (fun hc => ?_) (fun hc => ?_) <;> (try simp only [decide_eq_true_eq, decide_eq_false_iff_not, Bool.not_eq_true', Bool.not_eq_false', beq_iff_eq, beq_eq_false_iff_ne, bne_iff_ne, bne_eq_false_iff_eq, ne_eq, Int.not_lt, Int.not_le, ge_iff_le, gt_iff_lt] at hc) <;> (try (exfalso; omega))))
          refine ⟨k + 1, hkl, by omega, Nat.le_refl _, ?_⟩
          exact TSub.cut rfl (by repeat' (first | exact True.intro | refine And.intro (by (first | rfl | ((with_reducible_and_instances refine congrArg (fun z => some (AV.d (D.i _ z))) ?_); omega) | (refine congrArg (fun z => some (AV.d (D.i _ z))) (?_ : (_ : Int) = _); omega) | (refine congrArg some ?_; simp only [take_succ_of hx]; done) | (refine congrArg some ?_; simp [take_succ_of hx]; done))) ?_)) (by repeat' (first | exact True.intro | refine And.intro (Or.inr rfl) ?_ | refine And.intro (Or.inl ⟨rfl, rfl⟩) ?_ | refine And.intro (Or.inr (by simp only [take_succ_of hx])) ?_ | refine And.intro (Or.inr (by simp [take_succ_of hx])) ?_)) (by first | rfl | (simp (decide := true) [heapOk, Blk.ok, AV.oks, AV.ok, hk]; done)) rfl
      · have e1 : ((k : Int) != (a : Int)) = true := by rw [bne_iff_ne]; omega
        have hx2 : (l.set a (harmG g i m))[k]? = some x := by rw [List.getElem?_set_ne (Ne.symm hka)]; exact hx
        have nS := True.intro
        repeat' (first
         | ((with_reducible refine sg ?_); first
          | with_reducible rfl
          | with_reducible refine andT ?_ ?_
          | with_reducible exact Nat.beq_refl _
          | with_reducible exact fitsI_u8 _
          | ((with_reducible refine decide_eq_true ?_); first | omega | (simp only [SZl, nS]; omega))
          | decide
          | (simp [SZl, slc, allOneD, D.one, allOne, AV.one, nS]; done)
          | (simp [SZl, nS]; omega))
         | ((with_reducible refine gWl ?_); first
          | (refine Wl_isMv rfl ?_; refine Xmv eok rfl rfl rfl rfl ?_)
          | (refine Wl_isIx rfl ?_; refine Xix eok rfl rfl rfl rfl rfl (Int.natCast_nonneg _) (ix_map hx) ?_)
          | refine Xq eok rfl rfl rfl rfl ?_ ?_
          | refine Xn [0, 1, 3, 4, 6, 7, 8, 9, 18] rfl ?_
          | refine XF (ownGram_fn x hb) rfl rfl rfl rfl ?_
          | refine Xa eok rfl rfl rfl rfl rfl ?_ ?_
          | refine Xw eok rfl rfl rfl rfl ?_ ?_)
         | refine W_seq ?_
         | refine W_region ?_
         | refine W_skip ?_
         | refine W_ret ?_
         | refine W_block ?_
         | refine W_exit ?_
         | refine W_cond_t rfl ?_
         | refine W_cond_f rfl ?_
         | (refine W_cond rfl (fun hc => ?_) (fun hc => ?_) <;> (try simp only [decide_eq_true_eq, decide_eq_false_iff_not, Bool.not_eq_true', Bool.not_eq_false', beq_iff_eq, beq_eq_false_iff_ne, bne_iff_ne, bne_eq_false_iff_eq, ne_eq, Int.not_lt, Int.not_le, ge_iff_le, gt_iff_lt] at hc) <;> (try (exfalso; omega))))
        refine Xy (x := .d (.b true)) (H' := [.c [.d (.i .i64 i)], .c [.d (.i .u8 m)], .c [.d (gramsD l), .d (.i .i64 n)], .c [.d (.i .i64 a)], .c [.fn (.func 57) [] [.ptr 0 0 1, .ptr 1 0 1]], .c [.e0, .d (.i .i64 0)], .a (gramsD ((l.set a (harmG g i m)).take (k + 1))), .c [.sl 6 ((l.set a (harmG g i m)).take (k + 1)).length 3, .d (.i .i64 n)], .c [.d (gramsD l), .d (.i .i64 n)], .lp r, .c [.d (.i .i64 x.to), .d (.by x.by_), .d (.b x.harmed)], .c [.d (.i .i64 x.to), .d (.by x.by_), .d (.b x.harmed)]]) (YT_of_L hr rfl rfl rfl ?_) rfl rfl rfl rfl rfl ?_
        · have nS := True.intro
          repeat' (first
           | ((with_reducible refine sg ?_); first
            | with_reducible rfl
            | with_reducible refine andT ?_ ?_
            | with_reducible exact Nat.beq_refl _
            | with_reducible exact fitsI_u8 _
            | ((with_reducible refine decide_eq_true ?_); first | omega | (simp only [SZl, nS]; omega))
            | decide
            | (simp [SZl, slc, allOneD, D.one, allOne, AV.one, nS]; done)
            | (simp [SZl, nS]; omega))
           | ((with_reducible refine gWl ?_); first
            | (refine Wl_isMv rfl ?_; refine Xmv eok rfl rfl rfl rfl ?_)
            | refine Xq eok rfl rfl rfl rfl ?_ ?_
            | refine Xn [0, 1, 2, 3, 4, 5, 6, 7, 8, 9, 18, 19, 20, 27] rfl ?_
            | refine Xa eok rfl rfl rfl rfl rfl ?_ ?_
            | refine Xw eok rfl rfl rfl rfl ?_ ?_
            | refine Xs rfl rfl rfl ?_
            | (refine Xsplit rfl rfl (fun hc => ?_) (fun hc => ?_) <;> (fail_if_success (with_reducible first | exact absurd (hc : true = false) (by decide) | exact absurd (hc : false = true) (by decide))) <;> (try simp only [decide_eq_true_eq, decide_eq_false_iff_not, Bool.not_eq_true', Bool.not_eq_false', beq_iff_eq, beq_eq_false_iff_ne, bne_iff_ne, bne_eq_false_iff_eq, ne_eq, Int.not_lt, Int.not_le, ge_iff_le, gt_iff_lt] at hc) <;> (try (exfalso; omega))))
           | ((with_reducible refine gWd ?_); first
            | (refine Wd_isMv rfl ?_; refine Ymv eok rfl rfl (fun _ => rfl) rfl rfl ?_)
            | refine Yp eok rfl rfl (fun _ => rfl) rfl rfl ?_ ?_
            | refine Yq rfl rfl rfl rfl rfl ?_ ?_
            | refine Ys rfl rfl rfl rfl ?_
            | refine Ya eok rfl rfl rfl rfl rfl rfl ?_ ?_
            | refine Yw eok rfl rfl rfl rfl rfl ?_ ?_
            | refine Yn [0, 1, 2, 3, 4, 5, 6, 7, 8, 9, 18, 19, 20, 27] [] mixed eok (by kernel_rfl) True.intro rfl ?_
            | (refine Ysplit rfl rfl (fun hc => ?_) (fun hc => ?_) <;> (fail_if_success (with_reducible first | exact absurd (hc : true = false) (by decide) | exact absurd (hc : false = true) (by decide))) <;> (try simp only [decide_eq_true_eq, decide_eq_false_iff_not, Bool.not_eq_true', Bool.not_eq_false', beq_iff_eq, beq_eq_false_iff_ne, bne_iff_ne, bne_eq_false_iff_eq, ne_eq, Int.not_lt, Int.not_le, ge_iff_le, gt_iff_lt] at hc) <;> (try (exfalso; omega))))
           | refine W_seq ?_
           | refine W_region ?_
           | refine W_any T.get ?_
           | refine W_skip ?_
           | refine W_ret ?_
           | refine W_block ?_
           | refine W_exit ?_
           | refine W_cond_t rfl ?_
           | refine W_cond_f rfl ?_
           | (refine W_cond rfl (fun hc => ?_) (fun hc => ?_) <;> (try simp only [decide_eq_true_eq, decide_eq_false_iff_not, Bool.not_eq_true', Bool.not_eq_false', beq_iff_eq, beq_eq_false_iff_ne, bne_iff_ne, bne_eq_false_iff_eq, ne_eq, Int.not_lt, Int.not_le, ge_iff_le, gt_iff_lt] at hc) <;> (try (exfalso; omega))))
          refine ⟨rfl, W_hp (by first | (simp only [NSl, NHl, Nat.reduceAdd, Int.reduceAdd, Int.reduceSub, Int.reduceMul, Int.reduceToNat]; done) | (simp only [NSl, NHl, Nat.reduceAdd, Int.reduceAdd, Int.reduceSub, Int.reduceMul, Int.reduceToNat]; rfl) | rfl) ?_⟩
          have nS := e1
          repeat' (first
           | ((with_reducible refine sg ?_); first
            | with_reducible rfl
            | with_reducible refine andT ?_ ?_
            | with_reducible exact Nat.beq_refl _
            | with_reducible exact fitsI_u8 _
            | ((with_reducible refine decide_eq_true ?_); first | omega | (simp only [SZl, nS]; omega))
            | decide
            | (simp [SZl, slc, allOneD, D.one, allOne, AV.one, nS]; done)
            | (simp [SZl, nS]; omega))
           | ((with_reducible refine gWl ?_); first
            | (refine Wl_isMv rfl ?_; refine Xmv eok rfl rfl rfl rfl ?_)
            | refine Xq eok rfl rfl rfl rfl ?_ ?_
            | refine Xn [0, 1, 2, 3, 4, 5, 6, 7, 8, 9, 18, 19, 20, 27] rfl ?_
            | refine Xa eok rfl rfl rfl rfl rfl ?_ ?_
            | refine Xw eok rfl rfl rfl rfl ?_ ?_
            | refine Xs rfl rfl rfl ?_
            | (refine Xsplit rfl rfl (fun hc => ?_) (fun hc => ?_) <;> (fail_if_success (with_reducible first | exact absurd (hc : true = false) (by decide) | exact absurd (hc : false = true) (by decide))) <;> (try simp only [decide_eq_true_eq, decide_eq_false_iff_not, Bool.not_eq_true', Bool.not_eq_false', beq_iff_eq, beq_eq_false_iff_ne, bne_iff_ne, bne_eq_false_iff_eq, ne_eq, Int.not_lt, Int.not_le, ge_iff_le, gt_iff_lt] at hc) <;> (try (exfalso; omega))))
           | ((with_reducible refine gWd ?_); first
            | (refine Wd_isMv rfl ?_; refine Ymv eok rfl rfl (fun _ => rfl) rfl rfl ?_)
            | refine Yp eok rfl rfl (fun _ => rfl) rfl rfl ?_ ?_
            | refine Yq rfl rfl rfl rfl rfl ?_ ?_
            | refine Ys rfl rfl rfl rfl ?_
            | refine Ya eok rfl rfl rfl rfl rfl rfl ?_ ?_
            | refine Yw eok rfl rfl rfl rfl rfl ?_ ?_
            | refine Yn [0, 1, 2, 3, 4, 5, 6, 7, 8, 9, 18, 19, 20, 27] [] mixed eok (by kernel_rfl) True.intro rfl ?_
            | (refine Ysplit rfl rfl (fun hc => ?_) (fun hc => ?_) <;> (fail_if_success (with_reducible first | exact absurd (hc : true = false) (by decide) | exact absurd (hc : false = true) (by decide))) <;> (try simp only [decide_eq_true_eq, decide_eq_false_iff_not, Bool.not_eq_true', Bool.not_eq_false', beq_iff_eq, beq_eq_false_iff_ne, bne_iff_ne, bne_eq_false_iff_eq, ne_eq, Int.not_lt, Int.not_le, ge_iff_le, gt_iff_lt] at hc) <;> (try (exfalso; omega))))
           | refine W_seq ?_
           | refine W_region ?_
           | refine W_any T.get ?_
           | refine W_skip ?_
           | refine W_ret ?_
           | refine W_block ?_
           | refine W_exit ?_
           | refine W_cond_t rfl ?_
           | refine W_cond_f rfl ?_
           | (refine W_cond rfl (fun hc => ?_) (fun hc => ?_) <;> (try simp only [decide_eq_true_eq, decide_eq_false_iff_not, Bool.not_eq_true', Bool.not_eq_false', beq_iff_eq, beq_eq_false_iff_ne, bne_iff_ne, bne_eq_false_iff_eq, ne_eq, Int.not_lt, Int.not_le, ge_iff_le, gt_iff_lt] at hc) <;> (try (exfalso; omega))))
          refine ⟨_, TSub.refl _, Nat.le_succ _, rfl, rfl, ?_⟩
          simp only [take_succ_of hx2, gramsD, List.map_append, List.map_cons, List.map_nil, Gram.cells, List.length_append, List.length_map, List.length_cons, List.length_nil, List.set_cons_succ, List.set_cons_zero]
        · have nS := True.intro
          repeat' (first
           | ((with_reducible refine sg ?_); first
            | with_reducible rfl
            | with_reducible refine andT ?_ ?_
            | with_reducible exact Nat.beq_refl _
            | with_reducible exact fitsI_u8 _
            | ((with_reducible refine decide_eq_true ?_); first | omega | (simp only [SZl, nS]; omega))
            | decide
            | (simp [SZl, slc, allOneD, D.one, allOne, AV.one, nS]; done)
            | (simp [SZl, nS]; omega))
           | ((with_reducible refine gWl ?_); first
            | (refine Wl_isMv rfl ?_; refine Xmv eok rfl rfl rfl rfl ?_)
            | refine Xq eok rfl rfl rfl rfl ?_ ?_
            | refine Xn [0, 1, 3, 4, 6, 7, 8, 9, 18] rfl ?_
            | refine Xa eok rfl rfl rfl rfl rfl ?_ ?_
            | refine Xw eok rfl rfl rfl rfl ?_ ?_)
           | refine W_seq ?_
           | refine W_region ?_
           | refine W_skip ?_
           | refine W_ret ?_
           | refine W_block ?_
           | refine W_exit ?_
           | refine W_cond_t rfl ?_
           | refine W_cond_f rfl ?_
           | (refine W_cond rfl (fun hc => ?_) (fun hc => ?_) <;> (try simp only [decide_eq_true_eq, decide_eq_false_iff_not, Bool.not_eq_true', Bool.not_eq_false', beq_iff_eq, beq_eq_false_iff_ne, bne_iff_ne, bne_eq_false_iff_eq, ne_eq, Int.not_lt, Int.not_le, ge_iff_le, gt_iff_lt] at hc) <;> (try (exfalso; omega))))
          refine ⟨k + 1, hkl, by omega, Nat.le_refl _, ?_⟩
          exact TSub.cut rfl (by repeat' (first | exact True.intro | refine And.intro (by (first | rfl | ((with_reducible_and_instances refine congrArg (fun z => some (AV.d (D.i _ z))) ?_); omega) | (refine congrArg (fun z => some (AV.d (D.i _ z))) (?_ : (_ : Int) = _); omega) | (refine congrArg some ?_; simp only [take_succ_of hx2]; done) | (refine congrArg some ?_; simp [take_succ_of hx2]; done))) ?_)) (by repeat' (first | exact True.intro | refine And.intro (Or.inr rfl) ?_ | refine And.intro (Or.inl ⟨rfl, rfl⟩) ?_ | refine And.intro (Or.inr (by simp only [take_succ_of hx2])) ?_ | refine And.intro (Or.inr (by simp [take_succ_of hx2])) ?_)) (by first | rfl | (simp (decide := true) [heapOk, Blk.ok, AV.oks, AV.ok, hk]; done)) rfl

    · have e : k = l.length := by omega
      subst e
      have nS := True.intro
      repeat' (first
       | ((with_reducible refine sg ?_); first
        | with_reducible rfl
        | with_reducible refine andT ?_ ?_
        | with_reducible exact Nat.beq_refl _
        | with_reducible exact fitsI_u8 _
        | ((with_reducible refine decide_eq_true ?_); first | omega | (simp only [SZl, nS]; omega))
        | decide
        | (simp [SZl, slc, allOneD, D.one, allOne, AV.one, nS]; done)
        | (simp [SZl, nS]; omega))
       | ((with_reducible refine gWl ?_); first
        | (refine Wl_isMv rfl ?_; refine Xmv eok rfl rfl rfl rfl ?_)
        | refine Xq eok rfl rfl rfl rfl ?_ ?_
        | refine Xn [0, 1, 3, 4, 6, 7, 8, 9, 18] rfl ?_
        | refine Xa eok rfl rfl rfl rfl rfl ?_ ?_
        | refine Xw eok rfl rfl rfl rfl ?_ ?_)
       | refine W_seq ?_
       | refine W_region ?_
       | refine W_skip ?_
       | refine W_ret ?_
       | refine W_block ?_
       | refine W_exit ?_
       | refine W_cond_t rfl ?_
       | refine W_cond_f rfl ?_
       | (refine W_cond rfl (fun hc => ?_) (fun hc => ?_) <;> (try simp only [decide_eq_true_eq, decide_eq_false_iff_not, Bool.not_eq_true', Bool.not_eq_false', beq_iff_eq, beq_eq_false_iff_ne, bne_iff_ne, bne_eq_false_iff_eq, ne_eq, Int.not_lt, Int.not_le, ge_iff_le, gt_iff_lt] at hc) <;> (try (exfalso; omega))))
      refine ⟨_, TSub.refl _, Nat.le_refl _, _, _, rfl, rfl, ?_⟩
      simp only [List.take_of_length_le (Nat.le_of_eq (List.length_set ..))]
  · rintro r hr x H' rfl
    refine .inl ⟨rfl, ?_⟩
    have nS := True.intro
    repeat' (first
     | ((with_reducible refine sg ?_); first
      | with_reducible rfl
      | with_reducible refine andT ?_ ?_
      | with_reducible exact Nat.beq_refl _
      | with_reducible exact fitsI_u8 _
      | ((with_reducible refine decide_eq_true ?_); first | omega | (simp only [SZl, nS]; omega))
      | decide
      | (simp [SZl, slc, allOneD, D.one, allOne, AV.one, nS]; done)
      | (simp [SZl, nS]; omega))
     | ((with_reducible refine gWl ?_); first
      | (refine Wl_isMv rfl ?_; refine Xmv eok rfl rfl rfl rfl ?_)
      | refine Xq eok rfl rfl rfl rfl ?_ ?_
      | refine Xn [0, 1, 2, 3, 4, 5, 6, 7, 8, 9, 18, 19, 20, 27] rfl ?_
      | refine Xa eok rfl rfl rfl rfl rfl ?_ ?_
      | refine Xw eok rfl rfl rfl rfl ?_ ?_
      | refine Xs rfl rfl rfl ?_
      | (refine Xsplit rfl rfl (fun hc => ?_) (fun hc => ?_) <;> (fail_if_success (with_reducible first | exact absurd (hc : true = false) (by decide) | exact absurd (hc : false = true) (by decide))) <;> (try simp only [decide_eq_true_eq, decide_eq_false_iff_not, Bool.not_eq_true', Bool.not_eq_false', beq_iff_eq, beq_eq_false_iff_ne, bne_iff_ne, bne_eq_false_iff_eq, ne_eq, Int.not_lt, Int.not_le, ge_iff_le, gt_iff_lt] at hc) <;> (try (exfalso; omega))))
     | ((with_reducible refine gWd ?_); first
      | (refine Wd_isMv rfl ?_; refine Ymv eok rfl rfl (fun _ => rfl) rfl rfl ?_)
      | refine Yp eok rfl rfl (fun _ => rfl) rfl rfl ?_ ?_
      | refine Yq rfl rfl rfl rfl rfl ?_ ?_
      | refine Ys rfl rfl rfl rfl ?_
      | refine Ya eok rfl rfl rfl rfl rfl rfl ?_ ?_
      | refine Yw eok rfl rfl rfl rfl rfl ?_ ?_
      | refine Yn [0, 1, 2, 3, 4, 5, 6, 7, 8, 9, 18, 19, 20, 27] [] mixed eok (by kernel_rfl) True.intro rfl ?_
      | (refine Ysplit rfl rfl (fun hc => ?_) (fun hc => ?_) <;> (fail_if_success (with_reducible first | exact absurd (hc : true = false) (by decide) | exact absurd (hc : false = true) (by decide))) <;> (try simp only [decide_eq_true_eq, decide_eq_false_iff_not, Bool.not_eq_true', Bool.not_eq_false', beq_iff_eq, beq_eq_false_iff_ne, bne_iff_ne, bne_eq_false_iff_eq, ne_eq, Int.not_lt, Int.not_le, ge_iff_le, gt_iff_lt] at hc) <;> (try (exfalso; omega))))
     | refine W_seq ?_
     | refine W_region ?_
     | refine W_any T.get ?_
     | refine W_skip ?_
     | refine W_ret ?_
     | refine W_block ?_
     | refine W_exit ?_
     | refine W_cond_t rfl ?_
     | refine W_cond_f rfl ?_
     | (refine W_cond rfl (fun hc => ?_) (fun hc => ?_) <;> (try simp only [decide_eq_true_eq, decide_eq_false_iff_not, Bool.not_eq_true', Bool.not_eq_false', beq_iff_eq, beq_eq_false_iff_ne, bne_iff_ne, bne_eq_false_iff_eq, ne_eq, Int.not_lt, Int.not_le, ge_iff_le, gt_iff_lt] at hc) <;> (try (exfalso; omega))))
    exact ⟨⟨[(6, .ptr 5 0 2)], [.c [.d (.i .i64 i)], .c [.d (.i .u8 m)], .gone, .gone, .gone, .c [.sl 6 (l.set a (harmG g i m)).length 3, .d (.i .i64 n)], .a (gramsD (l.set a (harmG g i m)))], Try.f52.ntmps⟩, (TSub.cut rfl (by repeat' (first | exact True.intro | refine And.intro (by (first | rfl | ((with_reducible_and_instances refine congrArg (fun z => some (AV.d (D.i _ z))) ?_); omega) | (refine congrArg (fun z => some (AV.d (D.i _ z))) (?_ : (_ : Int) = _); omega) | (refine congrArg some ?_; simp; done))) ?_)) (by repeat' (first | exact True.intro | refine And.intro (Or.inr rfl) ?_ | refine And.intro (Or.inl ⟨rfl, rfl⟩) ?_ | refine And.intro (Or.inr (by simp)) ?_)) (by first | rfl | (simp (decide := true) [heapOk, Blk.ok, AV.oks, AV.ok, hk]; done)) rfl), Nat.le_of_ble_eq_true rfl, _, _, rfl, rfl, rfl, rfl⟩
end Go.Proofs.Ytgnddlldcglpfaa
