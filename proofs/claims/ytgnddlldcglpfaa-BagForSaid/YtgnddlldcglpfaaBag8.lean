/- Written by a program (pre.py) from the source of the same name. -/
/- Bags: the same, rising, harmed. -/
import Derived.Test.YtgnddlldcglpfaaBag7
set_option linter.unusedSimpArgs false
set_option linter.unusedVariables false
set_option linter.unnecessarySimpa false
namespace Go.Proofs.Ytgnddlldcglpfaa
open Go.Gar
set_option maxRecDepth 4000

theorem equal_fn (a b : List UInt8) : Go.Gar.Fn Try.prog 60 [.by a, .by b] (.b (a == b)) := by
  refine Fn_of_W eok Try.func60 rfl rfl (Nat.le_of_ble_eq_true rfl) ?_
  have nS := True.intro
  repeat' (first
   | ((with_reducible refine sg ?_); first
    | with_reducible rfl
    | with_reducible refine andT ?_ ?_
    | with_reducible exact Nat.beq_refl _
    | with_reducible exact fitsI_u8 _
    | ((with_reducible refine decide_eq_true ?_); first | omega | (simp only [SZl, nS]; omega))
    | decide
    | (simp [SZl, slc, allOneD, D.one, allOne, AV.one, nS]; done)
    | (simp [SZl, nS]; omega))
   | ((with_reducible refine gWl ?_); first
    | (refine Wl_isMv rfl ?_; refine Xmv eok rfl rfl rfl rfl ?_)
    | refine Xq eok rfl rfl rfl rfl ?_ ?_
    | refine Xn [0, 1, 4] rfl ?_)
   | refine W_seq ?_
   | refine W_region ?_
   | refine W_skip ?_
   | refine W_ret ?_
   | refine W_block ?_
   | refine W_exit ?_
   | refine W_cond_t rfl ?_
   | refine W_cond_f rfl ?_
   | (refine W_cond rfl (fun hc => ?_) (fun hc => ?_) <;> (try simp only [decide_eq_true_eq, decide_eq_false_iff_not, Bool.not_eq_true', Bool.not_eq_false', beq_iff_eq, beq_eq_false_iff_ne, bne_iff_ne, bne_eq_false_iff_eq, ne_eq, Int.not_lt, Int.not_le, ge_iff_le, gt_iff_lt] at hc) <;> (try (exfalso; omega))))
  refine ⟨_, _, rfl, rfl, ?_⟩; simp [Frz_tup, Frz_ag, Frzs_cons, Frzs_nil, Frz_d, Frz_e0, Frz_sl, sln, isSl, slOk]
theorem same1_fn (x y : Gram) : Go.Gar.Fn Try.prog 59 [x.d, y.d] (.b (decide (x = y))) := by
  obtain ⟨n1, l1, c1⟩ := x
  obtain ⟨n2, l2, c2⟩ := y
  refine Fn_of_W eok Try.func59 rfl rfl (Nat.le_of_ble_eq_true rfl) ?_
  have nS := True.intro
  repeat' (first
   | ((with_reducible refine sg ?_); first
    | with_reducible rfl
    | with_reducible refine andT ?_ ?_
    | with_reducible exact Nat.beq_refl _
    | with_reducible exact fitsI_u8 _
    | ((with_reducible refine decide_eq_true ?_); first | omega | (simp only [SZl, nS]; omega))
    | decide
    | (simp [SZl, slc, allOneD, D.one, allOne, AV.one, nS]; done)
    | (simp [SZl, nS]; omega))
   | ((with_reducible refine gWl ?_); first
    | (refine Wl_isMv rfl ?_; refine Xmv eok rfl rfl rfl rfl ?_)
    | refine Xq eok rfl rfl rfl rfl ?_ ?_
    | refine Xn [0, 1, 2, 3, 4] rfl ?_
    | refine XF (equal_fn l1 l2) rfl rfl rfl rfl ?_
    | refine Xa eok rfl rfl rfl rfl rfl ?_ ?_
    | refine Xs rfl rfl rfl ?_
    | (refine Xsplit rfl rfl (fun hc => ?_) (fun hc => ?_) <;> (fail_if_success (with_reducible first | exact absurd (hc : true = false) (by decide) | exact absurd (hc : false = true) (by decide))) <;> (try simp only [decide_eq_true_eq, decide_eq_false_iff_not, Bool.not_eq_true', Bool.not_eq_false', beq_iff_eq, beq_eq_false_iff_ne, bne_iff_ne, bne_eq_false_iff_eq, ne_eq, Int.not_lt, Int.not_le, ge_iff_le, gt_iff_lt] at hc) <;> (try (exfalso; omega))))
   | refine W_seq ?_
   | refine W_region ?_
   | refine W_skip ?_
   | refine W_ret ?_
   | refine W_block ?_
   | refine W_exit ?_
   | refine W_cond_t rfl ?_
   | refine W_cond_f rfl ?_
   | (refine W_cond rfl (fun hc => ?_) (fun hc => ?_) <;> (try simp only [decide_eq_true_eq, decide_eq_false_iff_not, Bool.not_eq_true', Bool.not_eq_false', beq_iff_eq, beq_eq_false_iff_ne, bne_iff_ne, bne_eq_false_iff_eq, ne_eq, Int.not_lt, Int.not_le, ge_iff_le, gt_iff_lt] at hc) <;> (try (exfalso; omega))))
  all_goals (refine ⟨_, _, rfl, rfl, ?_⟩; simp_all [Frz])
  exact (beq_dec _ _).symm

theorem equalFunc_fn (xs ys : List Gram) (hl : xs.length < 1000000) : FnD Try.prog 58 [.d (gramsD xs), .d (gramsD ys), .fn (.func 59) [] []] [] (.d (.b (decide (xs = ys)))) [] := by
  refine FnD_of_W eok Try.func58 rfl rfl (Nat.le_of_ble_eq_true rfl) ?_
  by_cases heq : xs.length = ys.length
  · have e1 : ((xs.length : Int) != (ys.length : Int)) = false := by rw [bne_eq_false_iff_eq]; omega
    have nS := e1
    repeat' (first
     | ((with_reducible refine sg ?_); first
      | with_reducible rfl
      | with_reducible refine andT ?_ ?_
      | with_reducible exact Nat.beq_refl _
      | with_reducible exact fitsI_u8 _
      | ((with_reducible refine decide_eq_true ?_); first | omega | (simp only [SZl, nS]; omega))
      | decide
      | (simp [SZl, slc, allOneD, D.one, allOne, AV.one, nS]; done)
      | (simp [SZl, nS]; omega))
     | ((with_reducible refine gWl ?_); first
      | (refine Wl_isMv rfl ?_; refine Xmv eok rfl rfl rfl rfl ?_)
      | refine Xq eok rfl rfl rfl rfl ?_ ?_
      | refine Xn [0, 1, 2, 6, 7, 8, 9, 14, 15, 16, 17, 18, 30] rfl ?_
      | refine Xa eok rfl rfl rfl rfl rfl ?_ ?_
      | refine Xw eok rfl rfl rfl rfl ?_ ?_)
     | refine W_seq ?_
     | refine W_region ?_
     | refine W_skip ?_
     | refine W_ret ?_
     | refine W_block ?_
     | refine W_exit ?_
     | refine W_cond_t rfl ?_
     | refine W_cond_f rfl ?_
     | (refine W_cond rfl (fun hc => ?_) (fun hc => ?_) <;> (try simp only [decide_eq_true_eq, decide_eq_false_iff_not, Bool.not_eq_true', Bool.not_eq_false', beq_iff_eq, beq_eq_false_iff_ne, bne_iff_ne, bne_eq_false_iff_eq, ne_eq, Int.not_lt, Int.not_le, ge_iff_le, gt_iff_lt] at hc) <;> (try (exfalso; omega))))
    refine W_loopI (fun k => k ≤ xs.length ∧ xs.take k = ys.take k) (fun k : Nat => ⟨[(1, .d (gramsD ys)), (2, .fn (.func 59) [] []), (6, .d (.b false)), (15, .d (gramsD xs)), (16, .d (.i .i64 xs.length)), (17, .d (.i .i64 k))], [], 32⟩) (fun k => xs.length - k) 0 ⟨Nat.zero_le _, by simp⟩ ?_ (Nat.le_refl _) ?_
    · exact TSub.cut rfl (by repeat' (first | exact True.intro | refine And.intro (by (first | rfl | ((with_reducible_and_instances refine congrArg (fun z => some (AV.d (D.i _ z))) ?_); omega) | (refine congrArg (fun z => some (AV.d (D.i _ z))) (?_ : (_ : Int) = _); omega) | (refine congrArg some ?_; simp; done))) ?_)) (by repeat' (first | exact True.intro | refine And.intro (Or.inr rfl) ?_ | refine And.intro (Or.inl ⟨rfl, rfl⟩) ?_ | refine And.intro (Or.inr (by simp)) ?_)) (by first | rfl | (simp (decide := true) [heapOk, Blk.ok, AV.oks, AV.ok, hk]; done)) rfl
    rintro k ⟨hk, hpre⟩
    by_cases hkl : k < xs.length
    · obtain ⟨x, hx⟩ := get_of hkl
      obtain ⟨y, hy⟩ := get_of (xs := ys) (k := k) (by omega)
      by_cases hxy : x = y
      · have nS := decide_eq_true hxy
        repeat' (first
         | ((with_reducible refine sg ?_); first
          | with_reducible rfl
          | with_reducible refine andT ?_ ?_
          | with_reducible exact Nat.beq_refl _
          | with_reducible exact fitsI_u8 _
          | ((with_reducible refine decide_eq_true ?_); first | omega | (simp only [SZl, nS]; omega))
          | decide
          | (simp [SZl, slc, allOneD, D.one, allOne, AV.one, nS]; done)
          | (simp [SZl, nS]; omega))
         | ((with_reducible refine gWl ?_); first
          | (refine Wl_isMv rfl ?_; refine Xmv eok rfl rfl rfl rfl ?_)
          | (refine Wl_isIx rfl ?_; refine Xix eok rfl rfl rfl rfl rfl (Int.natCast_nonneg _) (ix_map hx) ?_)
          | (refine Wl_isIx rfl ?_; refine Xix eok rfl rfl rfl rfl rfl (Int.natCast_nonneg _) (ix_map hy) ?_)
          | refine Xq eok rfl rfl rfl rfl ?_ ?_
          | refine Xn [0, 1, 2, 6, 7, 8, 9, 14, 15, 16, 17, 18, 30] rfl ?_
          | refine XF (same1_fn x y) rfl rfl rfl rfl ?_
          | refine Xa eok rfl rfl rfl rfl rfl ?_ ?_
          | refine Xw eok rfl rfl rfl rfl ?_ ?_)
         | refine W_seq ?_
         | refine W_region ?_
         | refine W_skip ?_
         | refine W_ret ?_
         | refine W_block ?_
         | refine W_exit ?_
         | refine W_cond_t rfl ?_
         | refine W_cond_f rfl ?_
         | (refine W_cond rfl (fun hc => ?_) (fun hc => ?_) <;> (try simp only [decide_eq_true_eq, decide_eq_false_iff_not, Bool.not_eq_true', Bool.not_eq_false', beq_iff_eq, beq_eq_false_iff_ne, bne_iff_ne, bne_eq_false_iff_eq, ne_eq, Int.not_lt, Int.not_le, ge_iff_le, gt_iff_lt] at hc) <;> (try (exfalso; omega))))
        refine ⟨k + 1, ⟨hkl, by rw [List.take_add_one, List.take_add_one, hpre, hx, hy, hxy]⟩, by omega, Nat.le_refl _, ?_⟩
        exact TSub.cut rfl (by repeat' (first | exact True.intro | refine And.intro (by (first | rfl | ((with_reducible_and_instances refine congrArg (fun z => some (AV.d (D.i _ z))) ?_); omega) | (refine congrArg (fun z => some (AV.d (D.i _ z))) (?_ : (_ : Int) = _); omega) | (refine congrArg some ?_; simp; done))) ?_)) (by repeat' (first | exact True.intro | refine And.intro (Or.inr rfl) ?_ | refine And.intro (Or.inl ⟨rfl, rfl⟩) ?_ | refine And.intro (Or.inr (by simp)) ?_)) (by first | rfl | (simp (decide := true) [heapOk, Blk.ok, AV.oks, AV.ok, hk]; done)) rfl
      · have hne : ¬ xs = ys := fun e => by subst e; rw [hx] at hy; cases hy; exact hxy rfl
        rw [decide_eq_false hne]
        have nS := decide_eq_false hxy
        repeat' (first
         | ((with_reducible refine sg ?_); first
          | with_reducible rfl
          | with_reducible refine andT ?_ ?_
          | with_reducible exact Nat.beq_refl _
          | with_reducible exact fitsI_u8 _
          | ((with_reducible refine decide_eq_true ?_); first | omega | (simp only [SZl, nS]; omega))
          | decide
          | (simp [SZl, slc, allOneD, D.one, allOne, AV.one, nS]; done)
          | (simp [SZl, nS]; omega))
         | ((with_reducible refine gWl ?_); first
          | (refine Wl_isMv rfl ?_; refine Xmv eok rfl rfl rfl rfl ?_)
          | (refine Wl_isIx rfl ?_; refine Xix eok rfl rfl rfl rfl rfl (Int.natCast_nonneg _) (ix_map hx) ?_)
          | (refine Wl_isIx rfl ?_; refine Xix eok rfl rfl rfl rfl rfl (Int.natCast_nonneg _) (ix_map hy) ?_)
          | refine Xq eok rfl rfl rfl rfl ?_ ?_
          | refine Xn [0, 1, 2, 6, 7, 8, 9, 14, 15, 16, 17, 18, 30] rfl ?_
          | refine XF (same1_fn x y) rfl rfl rfl rfl ?_
          | refine Xa eok rfl rfl rfl rfl rfl ?_ ?_
          | refine Xw eok rfl rfl rfl rfl ?_ ?_)
         | refine W_seq ?_
         | refine W_region ?_
         | refine W_skip ?_
         | refine W_ret ?_
         | refine W_block ?_
         | refine W_exit ?_
         | refine W_cond_t rfl ?_
         | refine W_cond_f rfl ?_
         | (refine W_cond rfl (fun hc => ?_) (fun hc => ?_) <;> (try simp only [decide_eq_true_eq, decide_eq_false_iff_not, Bool.not_eq_true', Bool.not_eq_false', beq_iff_eq, beq_eq_false_iff_ne, bne_iff_ne, bne_eq_false_iff_eq, ne_eq, Int.not_lt, Int.not_le, ge_iff_le, gt_iff_lt] at hc) <;> (try (exfalso; omega))))
        exact ⟨⟨[(6, .d (.b false))], [], Try.f58.ntmps⟩, (TSub.cut rfl (by repeat' (first | exact True.intro | refine And.intro (by (first | rfl | ((with_reducible_and_instances refine congrArg (fun z => some (AV.d (D.i _ z))) ?_); omega) | (refine congrArg (fun z => some (AV.d (D.i _ z))) (?_ : (_ : Int) = _); omega) | (refine congrArg some ?_; simp; done))) ?_)) (by repeat' (first | exact True.intro | refine And.intro (Or.inr rfl) ?_ | refine And.intro (Or.inl ⟨rfl, rfl⟩) ?_ | refine And.intro (Or.inr (by simp)) ?_)) (by first | rfl | (simp (decide := true) [heapOk, Blk.ok, AV.oks, AV.ok, hk]; done)) rfl), Nat.le_refl _, _, _, rfl, rfl, rfl, rfl⟩
    · have e : k = xs.length := by omega
      subst e
      have hE : xs = ys := by rw [List.take_length, heq, List.take_length] at hpre; exact hpre
      rw [decide_eq_true hE]
      have nS := True.intro
      repeat' (first
       | ((with_reducible refine sg ?_); first
        | with_reducible rfl
        | with_reducible refine andT ?_ ?_
        | with_reducible exact Nat.beq_refl _
        | with_reducible exact fitsI_u8 _
        | ((with_reducible refine decide_eq_true ?_); first | omega | (simp only [SZl, nS]; omega))
        | decide
        | (simp [SZl, slc, allOneD, D.one, allOne, AV.one, nS]; done)
        | (simp [SZl, nS]; omega))
       | ((with_reducible refine gWl ?_); first
        | (refine Wl_isMv rfl ?_; refine Xmv eok rfl rfl rfl rfl ?_)
        | refine Xq eok rfl rfl rfl rfl ?_ ?_
        | refine Xn [0, 1, 2, 6, 7, 8, 9, 14, 15, 16, 17, 18, 30] rfl ?_
        | refine Xa eok rfl rfl rfl rfl rfl ?_ ?_
        | refine Xw eok rfl rfl rfl rfl ?_ ?_)
       | refine W_seq ?_
       | refine W_region ?_
       | refine W_skip ?_
       | refine W_ret ?_
       | refine W_block ?_
       | refine W_exit ?_
       | refine W_cond_t rfl ?_
       | refine W_cond_f rfl ?_
       | (refine W_cond rfl (fun hc => ?_) (fun hc => ?_) <;> (try simp only [decide_eq_true_eq, decide_eq_false_iff_not, Bool.not_eq_true', Bool.not_eq_false', beq_iff_eq, beq_eq_false_iff_ne, bne_iff_ne, bne_eq_false_iff_eq, ne_eq, Int.not_lt, Int.not_le, ge_iff_le, gt_iff_lt] at hc) <;> (try (exfalso; omega))))
      exact ⟨⟨[(6, .d (.b true))], [], Try.f58.ntmps⟩, (TSub.cut rfl (by repeat' (first | exact True.intro | refine And.intro (by (first | rfl | ((with_reducible_and_instances refine congrArg (fun z => some (AV.d (D.i _ z))) ?_); omega) | (refine congrArg (fun z => some (AV.d (D.i _ z))) (?_ : (_ : Int) = _); omega) | (refine congrArg some ?_; simp; done))) ?_)) (by repeat' (first | exact True.intro | refine And.intro (Or.inr rfl) ?_ | refine And.intro (Or.inl ⟨rfl, rfl⟩) ?_ | refine And.intro (Or.inr (by simp)) ?_)) (by first | rfl | (simp (decide := true) [heapOk, Blk.ok, AV.oks, AV.ok, hk]; done)) rfl), Nat.le_refl _, _, _, rfl, rfl, rfl, rfl⟩
  · have e1 : ((xs.length : Int) != (ys.length : Int)) = true := by rw [bne_iff_ne]; omega
    have hne : ¬ xs = ys := fun e => heq (by rw [e])
    rw [decide_eq_false hne]
    have nS := e1
    repeat' (first
     | ((with_reducible refine sg ?_); first
      | with_reducible rfl
      | with_reducible refine andT ?_ ?_
      | with_reducible exact Nat.beq_refl _
      | with_reducible exact fitsI_u8 _
      | ((with_reducible refine decide_eq_true ?_); first | omega | (simp only [SZl, nS]; omega))
      | decide
      | (simp [SZl, slc, allOneD, D.one, allOne, AV.one, nS]; done)
      | (simp [SZl, nS]; omega))
     | ((with_reducible refine gWl ?_); first
      | (refine Wl_isMv rfl ?_; refine Xmv eok rfl rfl rfl rfl ?_)
      | refine Xq eok rfl rfl rfl rfl ?_ ?_
      | refine Xn [0, 1, 2, 6, 7, 8, 9, 14, 15, 16, 17, 18, 30] rfl ?_
      | refine Xa eok rfl rfl rfl rfl rfl ?_ ?_
      | refine Xw eok rfl rfl rfl rfl ?_ ?_)
     | refine W_seq ?_
     | refine W_region ?_
     | refine W_skip ?_
     | refine W_ret ?_
     | refine W_block ?_
     | refine W_exit ?_
     | refine W_cond_t rfl ?_
     | refine W_cond_f rfl ?_
     | (refine W_cond rfl (fun hc => ?_) (fun hc => ?_) <;> (try simp only [decide_eq_true_eq, decide_eq_false_iff_not, Bool.not_eq_true', Bool.not_eq_false', beq_iff_eq, beq_eq_false_iff_ne, bne_iff_ne, bne_eq_false_iff_eq, ne_eq, Int.not_lt, Int.not_le, ge_iff_le, gt_iff_lt] at hc) <;> (try (exfalso; omega))))
    exact ⟨⟨[(6, .d (.b false))], [], Try.f58.ntmps⟩, (TSub.cut rfl (by repeat' (first | exact True.intro | refine And.intro (by (first | rfl | ((with_reducible_and_instances refine congrArg (fun z => some (AV.d (D.i _ z))) ?_); omega) | (refine congrArg (fun z => some (AV.d (D.i _ z))) (?_ : (_ : Int) = _); omega) | (refine congrArg some ?_; simp; done))) ?_)) (by repeat' (first | exact True.intro | refine And.intro (Or.inr rfl) ?_ | refine And.intro (Or.inl ⟨rfl, rfl⟩) ?_ | refine And.intro (Or.inr (by simp)) ?_)) (by first | rfl | (simp (decide := true) [heapOk, Blk.ok, AV.oks, AV.ok, hk]; done)) rfl), Nat.le_refl _, _, _, rfl, rfl, rfl, rfl⟩

theorem same_fn (a b : Bag) (hl : a.grams.length < 1000000) : Go.Gar.Fn Try.prog 30 [a.d, b.d] (.b (decide (a = b))) := by
  obtain ⟨xs, n⟩ := a
  obtain ⟨ys, m⟩ := b
  refine Fn_of_W eok Try.func30 rfl rfl (Nat.le_of_ble_eq_true rfl) ?_
  have nS := True.intro
  repeat' (first
   | ((with_reducible refine sg ?_); first
    | with_reducible rfl
    | with_reducible refine andT ?_ ?_
    | with_reducible exact Nat.beq_refl _
    | with_reducible exact fitsI_u8 _
    | ((with_reducible refine decide_eq_true ?_); first | omega | (simp only [SZl, nS]; omega))
    | decide
    | (simp [SZl, slc, allOneD, D.one, allOne, AV.one, nS]; done)
    | (simp [SZl, nS]; omega))
   | ((with_reducible refine gWl ?_); first
    | (refine Wl_isMv rfl ?_; refine Xmv eok rfl rfl rfl rfl ?_)
    | refine Xq eok rfl rfl rfl rfl ?_ ?_
    | refine Xn [0, 1, 2, 3, 4] rfl ?_
    | refine XD [] (equalFunc_fn xs ys hl) rfl rfl rfl (by repeat' (first | exact True.intro | refine And.intro rfl ?_)) rfl rfl rfl rfl ?_
    | refine Xa eok rfl rfl rfl rfl rfl ?_ ?_
    | refine Xs rfl rfl rfl ?_
    | (refine Xsplit rfl rfl (fun hc => ?_) (fun hc => ?_) <;> (fail_if_success (with_reducible first | exact absurd (hc : true = false) (by decide) | exact absurd (hc : false = true) (by decide))) <;> (try simp only [decide_eq_true_eq, decide_eq_false_iff_not, Bool.not_eq_true', Bool.not_eq_false', beq_iff_eq, beq_eq_false_iff_ne, bne_iff_ne, bne_eq_false_iff_eq, ne_eq, Int.not_lt, Int.not_le, ge_iff_le, gt_iff_lt] at hc) <;> (try (exfalso; omega))))
   | refine W_seq ?_
   | refine W_region ?_
   | refine W_skip ?_
   | refine W_ret ?_
   | refine W_block ?_
   | refine W_exit ?_
   | refine W_cond_t rfl ?_
   | refine W_cond_f rfl ?_
   | (refine W_cond rfl (fun hc => ?_) (fun hc => ?_) <;> (try simp only [decide_eq_true_eq, decide_eq_false_iff_not, Bool.not_eq_true', Bool.not_eq_false', beq_iff_eq, beq_eq_false_iff_ne, bne_iff_ne, bne_eq_false_iff_eq, ne_eq, Int.not_lt, Int.not_le, ge_iff_le, gt_iff_lt] at hc) <;> (try (exfalso; omega))))
  all_goals (refine ⟨_, _, rfl, rfl, ?_⟩; simp_all [Frz])

/-- Those to one, told by the places, are just these. -/
theorem forT_getD {l : List Gram} {to : Int} {k : Nat} (n : Nat) (h : k ≤ n) : forT l to n = forT l to k ++ (forT l to n).drop (forT l to k).length := by
  induction n with
  | zero => have : k = 0 := by omega
            subst this; simp [forT]
  | succ n ih =>
    by_cases e : k = n + 1
    · subst e; simp
    · have h1 := ih (by omega)
      by_cases hT : ((l.getD n zeroG).to == to) = true
      · have e2 : forT l to (n + 1) = forT l to n ++ [(n : Int)] := by
          unfold forT; rw [List.range_succ, List.filter_append, List.map_append]; simp only [List.filter_cons, hT, if_true]; rfl
        rw [e2]
        have hle : (forT l to k).length ≤ (forT l to n).length := by rw [h1]; simp
        rw [List.drop_append_of_le_length hle, ← List.append_assoc, ← h1]
      · have e2 : forT l to (n + 1) = forT l to n := by
          unfold forT; rw [List.range_succ, List.filter_append, List.map_append]; simp only [List.filter_cons]; rw [if_neg hT]; simp
        rw [e2]; exact h1
theorem rise_get {l : List Gram} {to : Int} {k n : Nat} {x : Gram} (hx : l[k]? = some x) (hT : x.to = to) (h : k < n) : (forT l to n).getD (forT l to k).length 0 = (k : Int) ∧ (forT l to k).length < (forT l to n).length := by
  have h1 := forT_getD (l := l) (to := to) n (show k + 1 ≤ n from h)
  rw [forT_in hx hT] at h1
  generalize (forT l to n).drop (forT l to k ++ [(k : Int)]).length = r at h1
  rw [h1]
  simp
theorem rising_fn (b : Bag) (to : Int) (hb : b.grams.length ≤ 1000) : Go.Gar.Fn Try.prog 35 [b.d, .i .i64 to, .is (forT b.grams to b.grams.length)] (.b true) := by
  obtain ⟨l, n⟩ := b
  replace hb : l.length ≤ 1000 := hb
  refine Fn_of_W eok Try.func35 rfl rfl (Nat.le_of_ble_eq_true rfl) ?_
  have nS := True.intro
  repeat' (first
   | ((with_reducible refine sg ?_); first
    | with_reducible rfl
    | with_reducible refine andT ?_ ?_
    | with_reducible exact Nat.beq_refl _
    | with_reducible exact fitsI_u8 _
    | ((with_reducible refine decide_eq_true ?_); first | omega | (simp only [SZl, nS]; omega))
    | decide
    | (simp [SZl, slc, allOneD, D.one, allOne, AV.one, nS]; done)
    | (simp [SZl, nS]; omega))
   | ((with_reducible refine gWl ?_); first
    | (refine Wl_isMv rfl ?_; refine Xmv eok rfl rfl rfl rfl ?_)
    | refine Xq eok rfl rfl rfl rfl ?_ ?_
    | refine Xn [0, 1, 2, 3, 6, 7, 8, 13, 23, 35] rfl ?_
    | refine Xa eok rfl rfl rfl rfl rfl ?_ ?_
    | refine Xs rfl rfl rfl ?_
    | (refine Xsplit rfl rfl (fun hc => ?_) (fun hc => ?_) <;> (fail_if_success (with_reducible first | exact absurd (hc : true = false) (by decide) | exact absurd (hc : false = true) (by decide))) <;> (try simp only [decide_eq_true_eq, decide_eq_false_iff_not, Bool.not_eq_true', Bool.not_eq_false', beq_iff_eq, beq_eq_false_iff_ne, bne_iff_ne, bne_eq_false_iff_eq, ne_eq, Int.not_lt, Int.not_le, ge_iff_le, gt_iff_lt] at hc) <;> (try (exfalso; omega))))
   | refine W_seq ?_
   | refine W_region ?_
   | refine W_skip ?_
   | refine W_ret ?_
   | refine W_block ?_
   | refine W_exit ?_
   | refine W_cond_t rfl ?_
   | refine W_cond_f rfl ?_
   | (refine W_cond rfl (fun hc => ?_) (fun hc => ?_) <;> (try simp only [decide_eq_true_eq, decide_eq_false_iff_not, Bool.not_eq_true', Bool.not_eq_false', beq_iff_eq, beq_eq_false_iff_ne, bne_iff_ne, bne_eq_false_iff_eq, ne_eq, Int.not_lt, Int.not_le, ge_iff_le, gt_iff_lt] at hc) <;> (try (exfalso; omega))))
  refine W_loopI (fun k => k ≤ l.length) (fun k : Nat => ⟨[(1, .d (.i .i64 to)), (2, .d (.is (forT l to l.length))), (3, .ptr 0 0 2), (6, .d (.b false)), (7, .d (.i .i64 (forT l to k).length)), (8, .d (.i .i64 k))], [.c [.d (gramsD l), .d (.i .i64 n)]], 42⟩) (fun k => l.length - k) 0 (Nat.zero_le _) ?_ (Nat.le_refl _) ?_
  · exact TSub.cut rfl (by repeat' (first | exact True.intro | refine And.intro (by (first | rfl | ((with_reducible_and_instances refine congrArg (fun z => some (AV.d (D.i _ z))) ?_); omega) | (refine congrArg (fun z => some (AV.d (D.i _ z))) (?_ : (_ : Int) = _); omega) | (refine congrArg some ?_; simp; done))) ?_)) (by repeat' (first | exact True.intro | refine And.intro (Or.inr rfl) ?_ | refine And.intro (Or.inl ⟨rfl, rfl⟩) ?_ | refine And.intro (Or.inr (by simp)) ?_)) (by first | rfl | (simp (decide := true) [heapOk, Blk.ok, AV.oks, AV.ok, hk]; done)) rfl
  intro k hk
  have hle := forT_len l to k
  by_cases hkl : k < l.length
  · obtain ⟨x, hx⟩ := get_of hkl
    by_cases hT : x.to = to
    · have hn := forT_in hx hT
      obtain ⟨h1, h2⟩ := rise_get hx hT hkl
      have e1 : (x.to != to) = false := by simp [hT]
      have nS := And.intro e1 h1
      repeat' (first
       | ((with_reducible refine sg ?_); first
        | with_reducible rfl
        | with_reducible refine andT ?_ ?_
        | with_reducible exact Nat.beq_refl _
        | with_reducible exact fitsI_u8 _
        | ((with_reducible refine decide_eq_true ?_); first | omega | (simp only [SZl, nS]; omega))
        | decide
        | (simp [SZl, slc, allOneD, D.one, allOne, AV.one, nS]; done)
        | (simp [SZl, nS]; omega))
       | ((with_reducible refine gWl ?_); first
        | (refine Wl_isMv rfl ?_; refine Xmv eok rfl rfl rfl rfl ?_)
        | (refine Wl_isIx rfl ?_; refine Xix eok rfl rfl rfl rfl rfl (Int.natCast_nonneg _) (ix_map hx) ?_)
        | refine Xq eok rfl rfl rfl rfl ?_ ?_
        | refine Xn [0, 1, 2, 3, 6, 7, 8, 13, 23, 35] rfl ?_
        | refine Xa eok rfl rfl rfl rfl rfl ?_ ?_
        | refine Xs rfl rfl rfl ?_
        | (refine Xsplit rfl rfl (fun hc => ?_) (fun hc => ?_) <;> (fail_if_success (with_reducible first | exact absurd (hc : true = false) (by decide) | exact absurd (hc : false = true) (by decide))) <;> (try simp only [decide_eq_true_eq, decide_eq_false_iff_not, Bool.not_eq_true', Bool.not_eq_false', beq_iff_eq, beq_eq_false_iff_ne, bne_iff_ne, bne_eq_false_iff_eq, ne_eq, Int.not_lt, Int.not_le, ge_iff_le, gt_iff_lt] at hc) <;> (try (exfalso; omega))))
       | refine W_seq ?_
       | refine W_region ?_
       | refine W_skip ?_
       | refine W_ret ?_
       | refine W_block ?_
       | refine W_exit ?_
       | refine W_cond_t rfl ?_
       | refine W_cond_f rfl ?_
       | (refine W_cond rfl (fun hc => ?_) (fun hc => ?_) <;> (try simp only [decide_eq_true_eq, decide_eq_false_iff_not, Bool.not_eq_true', Bool.not_eq_false', beq_iff_eq, beq_eq_false_iff_ne, bne_iff_ne, bne_eq_false_iff_eq, ne_eq, Int.not_lt, Int.not_le, ge_iff_le, gt_iff_lt] at hc) <;> (try (exfalso; omega))))
      refine ⟨k + 1, hkl, by omega, Nat.le_refl _, ?_⟩
      exact TSub.cut rfl (by repeat' (first | exact True.intro | refine And.intro (by (first | rfl | ((with_reducible_and_instances refine congrArg (fun z => some (AV.d (D.i _ z))) ?_); omega) | (refine congrArg (fun z => some (AV.d (D.i _ z))) (?_ : (_ : Int) = _); omega) | (refine congrArg some ?_; simp only [hn, List.length_append, List.length_cons, List.length_nil, Int.natCast_add]; done) | (refine congrArg some ?_; simp [hn, List.length_append, List.length_cons, List.length_nil, Int.natCast_add]; done))) ?_)) (by repeat' (first | exact True.intro | refine And.intro (Or.inr rfl) ?_ | refine And.intro (Or.inl ⟨rfl, rfl⟩) ?_ | refine And.intro (Or.inr (by simp only [hn, List.length_append, List.length_cons, List.length_nil, Int.natCast_add])) ?_ | refine And.intro (Or.inr (by simp [hn, List.length_append, List.length_cons, List.length_nil, Int.natCast_add])) ?_)) (by first | rfl | (simp (decide := true) [heapOk, Blk.ok, AV.oks, AV.ok, hk]; done)) rfl
    · have hn := forT_out hx hT
      have e1 : (x.to != to) = true := by simp [hT]
      have nS := e1
      repeat' (first
       | ((with_reducible refine sg ?_); first
        | with_reducible rfl
        | with_reducible refine andT ?_ ?_
        | with_reducible exact Nat.beq_refl _
        | with_reducible exact fitsI_u8 _
        | ((with_reducible refine decide_eq_true ?_); first | omega | (simp only [SZl, nS]; omega))
        | decide
        | (simp [SZl, slc, allOneD, D.one, allOne, AV.one, nS]; done)
        | (simp [SZl, nS]; omega))
       | ((with_reducible refine gWl ?_); first
        | (refine Wl_isMv rfl ?_; refine Xmv eok rfl rfl rfl rfl ?_)
        | (refine Wl_isIx rfl ?_; refine Xix eok rfl rfl rfl rfl rfl (Int.natCast_nonneg _) (ix_map hx) ?_)
        | refine Xq eok rfl rfl rfl rfl ?_ ?_
        | refine Xn [0, 1, 2, 3, 6, 7, 8, 13, 23, 35] rfl ?_
        | refine Xa eok rfl rfl rfl rfl rfl ?_ ?_
        | refine Xs rfl rfl rfl ?_
        | (refine Xsplit rfl rfl (fun hc => ?_) (fun hc => ?_) <;> (fail_if_success (with_reducible first | exact absurd (hc : true = false) (by decide) | exact absurd (hc : false = true) (by decide))) <;> (try simp only [decide_eq_true_eq, decide_eq_false_iff_not, Bool.not_eq_true', Bool.not_eq_false', beq_iff_eq, beq_eq_false_iff_ne, bne_iff_ne, bne_eq_false_iff_eq, ne_eq, Int.not_lt, Int.not_le, ge_iff_le, gt_iff_lt] at hc) <;> (try (exfalso; omega))))
       | refine W_seq ?_
       | refine W_region ?_
       | refine W_skip ?_
       | refine W_ret ?_
       | refine W_block ?_
       | refine W_exit ?_
       | refine W_cond_t rfl ?_
       | refine W_cond_f rfl ?_
       | (refine W_cond rfl (fun hc => ?_) (fun hc => ?_) <;> (try simp only [decide_eq_true_eq, decide_eq_false_iff_not, Bool.not_eq_true', Bool.not_eq_false', beq_iff_eq, beq_eq_false_iff_ne, bne_iff_ne, bne_eq_false_iff_eq, ne_eq, Int.not_lt, Int.not_le, ge_iff_le, gt_iff_lt] at hc) <;> (try (exfalso; omega))))
      refine ⟨k + 1, hkl, by omega, Nat.le_refl _, ?_⟩
      exact TSub.cut rfl (by repeat' (first | exact True.intro | refine And.intro (by (first | rfl | ((with_reducible_and_instances refine congrArg (fun z => some (AV.d (D.i _ z))) ?_); omega) | (refine congrArg (fun z => some (AV.d (D.i _ z))) (?_ : (_ : Int) = _); omega) | (refine congrArg some ?_; simp only [hn]; done) | (refine congrArg some ?_; simp [hn]; done))) ?_)) (by repeat' (first | exact True.intro | refine And.intro (Or.inr rfl) ?_ | refine And.intro (Or.inl ⟨rfl, rfl⟩) ?_ | refine And.intro (Or.inr (by simp only [hn])) ?_ | refine And.intro (Or.inr (by simp [hn])) ?_)) (by first | rfl | (simp (decide := true) [heapOk, Blk.ok, AV.oks, AV.ok, hk]; done)) rfl
  · have e : k = l.length := by omega
    subst e
    have nS := True.intro
    repeat' (first
     | ((with_reducible refine sg ?_); first
      | with_reducible rfl
      | with_reducible refine andT ?_ ?_
      | with_reducible exact Nat.beq_refl _
      | with_reducible exact fitsI_u8 _
      | ((with_reducible refine decide_eq_true ?_); first | omega | (simp only [SZl, nS]; omega))
      | decide
      | (simp [SZl, slc, allOneD, D.one, allOne, AV.one, nS]; done)
      | (simp [SZl, nS]; omega))
     | ((with_reducible refine gWl ?_); first
      | (refine Wl_isMv rfl ?_; refine Xmv eok rfl rfl rfl rfl ?_)
      | refine Xq eok rfl rfl rfl rfl ?_ ?_
      | refine Xn [0, 1, 2, 3, 6, 7, 8, 13, 23, 35] rfl ?_
      | refine Xa eok rfl rfl rfl rfl rfl ?_ ?_
      | refine Xs rfl rfl rfl ?_
      | (refine Xsplit rfl rfl (fun hc => ?_) (fun hc => ?_) <;> (fail_if_success (with_reducible first | exact absurd (hc : true = false) (by decide) | exact absurd (hc : false = true) (by decide))) <;> (try simp only [decide_eq_true_eq, decide_eq_false_iff_not, Bool.not_eq_true', Bool.not_eq_false', beq_iff_eq, beq_eq_false_iff_ne, bne_iff_ne, bne_eq_false_iff_eq, ne_eq, Int.not_lt, Int.not_le, ge_iff_le, gt_iff_lt] at hc) <;> (try (exfalso; omega))))
     | refine W_seq ?_
     | refine W_region ?_
     | refine W_skip ?_
     | refine W_ret ?_
     | refine W_block ?_
     | refine W_exit ?_
     | refine W_cond_t rfl ?_
     | refine W_cond_f rfl ?_
     | (refine W_cond rfl (fun hc => ?_) (fun hc => ?_) <;> (try simp only [decide_eq_true_eq, decide_eq_false_iff_not, Bool.not_eq_true', Bool.not_eq_false', beq_iff_eq, beq_eq_false_iff_ne, bne_iff_ne, bne_eq_false_iff_eq, ne_eq, Int.not_lt, Int.not_le, ge_iff_le, gt_iff_lt] at hc) <;> (try (exfalso; omega))))
    refine ⟨_, _, rfl, rfl, ?_⟩; simp [Frz_tup, Frz_ag, Frzs_cons, Frzs_nil, Frz_d, Frz_e0, Frz_sl, sln, isSl, slOk]
end Go.Proofs.Ytgnddlldcglpfaa
