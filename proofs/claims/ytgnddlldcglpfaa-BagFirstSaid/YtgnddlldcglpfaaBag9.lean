/- Written by a program (pre.py) from the source of the same name. -/
/- Bags: what the document says of nothing; of two datagrams. -/
import Derived.Test.YtgnddlldcglpfaaBag8
set_option linter.unusedSimpArgs false
set_option linter.unusedVariables false
set_option linter.unnecessarySimpa false
namespace Go.Proofs.Ytgnddlldcglpfaa
open Go.Gar
set_option maxRecDepth 4000

def nil0 : Bag := ⟨[], 0⟩
def gA : Gram := ⟨3, [1, 2], false⟩
def gB : Gram := ⟨4, [], false⟩
def gC : Gram := ⟨3, List.replicate 121 0, false⟩
def bag1 : Bag := ⟨[gA, gB], 1⟩
def bag2 : Bag := ⟨[gA, gB, gA], 1⟩
def gH : Gram := ⟨3, [1, 10], true⟩
def bag3 : Bag := ⟨[gA, gB, gH], 1⟩
theorem sm {l : List Gram} (h : (l.all fun g => decide (g.by_.length ≤ 100000)) = true) : small l := fun g hg => by
  rw [List.all_eq_true] at h
  simpa using h g hg
theorem w1 : Go.Gar.Fn Try.prog 16 [.agg [.sl 3 [], .i .i64 0], .i .i64 0] (.tup [nil0.d, zeroG.d, .b false]) := by
  have h := take_fn nil0 0 (by decide) (sm rfl)
  have e : takeB nil0 0 = (nil0, zeroG, false) := by decide
  rw [e] at h; exact h
theorem w2 : Go.Gar.Fn Try.prog 19 [.agg [.sl 3 [], .i .i64 0], gramsD [gA, gB, gC]] bag1.d := by
  have h := send_fn nil0 [gA, gB, gC] (by decide) (sm rfl) (by decide) (sm (by decide))
  have e : putB nil0 [gA, gB, gC] = bag1 := by decide
  rw [e] at h; exact h
theorem w3 : Go.Gar.Fn Try.prog 24 [bag1.d, .i .i64 0] (.tup [bag2.d, .i .i64 0]) := by
  have h := twice_fn bag1 0 (by decide) (sm rfl)
  have e : twiceB bag1 0 = (bag2, 0) := by decide
  rw [e] at h; exact h
theorem w4 : Go.Gar.Fn Try.prog 26 [bag2.d, .i .i64 2, .i .i64 1, .i .u8 8] (.tup [bag3.d, .i .i64 0]) := by
  have h := harm_fn bag2 2 1 8 (by decide) (sm rfl)
  have e : harmS bag2 2 1 8 = (bag3, 0) := by decide
  rw [e] at h; exact h
theorem w5 : Go.Gar.Fn Try.prog 26 [bag3.d, .i .i64 2, .i .i64 0, .i .u8 8] (.tup [bag3.d, .i .i64 2]) := by
  have h := harm_fn bag3 2 0 8 (by decide) (sm rfl)
  have e : harmS bag3 2 0 8 = (bag3, 2) := by decide
  rw [e] at h; exact h
theorem w6 : Go.Gar.Fn Try.prog 16 [bag3.d, .i .i64 2] (.tup [bag1.d, gH.d, .b true]) := by
  have h := take_fn bag3 2 (by decide) (sm rfl)
  have e : takeB bag3 2 = (bag1, gH, true) := by decide
  rw [e] at h; exact h
theorem w7 : Go.Gar.Fn Try.prog 22 [bag1.d, .i .i64 1] (.tup [Bag.d ⟨[gA], 2⟩, .i .i64 0]) := by
  have h := drop_fn bag1 1 (by decide) (sm rfl)
  have e : dropB bag1 1 = (⟨[gA], 2⟩, 0) := by decide
  rw [e] at h; exact h
theorem w8 : Go.Gar.Fn Try.prog 28 [bag3.d, .i .i64 3] (.is [0, 2]) := for_fn bag3 3 (by decide)
theorem w9 : Go.Gar.Fn Try.prog 18 [bag1.d, bag1.d] (.b true) := rSame_fn bag1 bag1 (by decide)
theorem w10 : Go.Gar.Fn Try.prog 30 [bag1.d, bag1.d] (.b true) := same_fn bag1 bag1 (by decide)
theorem w11 : Go.Gar.Fn Try.prog 30 [bag1.d, bag3.d] (.b false) := same_fn bag1 bag3 (by decide)

set_option maxHeartbeats 4000000 in
theorem wakes_fn : Go.Gar.Fn Try.prog 15 [] (.b true) := by
  refine Fn_of_W eok Try.func15 rfl rfl (Nat.le_of_ble_eq_true rfl) ?_
  have nS := True.intro
  repeat' (first
   | ((with_reducible refine sg ?_); first
    | with_reducible rfl
    | with_reducible refine andT ?_ ?_
    | with_reducible exact Nat.beq_refl _
    | with_reducible exact fitsI_u8 _
    | ((with_reducible refine decide_eq_true ?_); first | omega | (simp only [SZl, nS]; omega))
    | decide
    | (simp [SZl, slc, allOneD, D.one, allOne, AV.one, nS]; done)
    | (simp [SZl, nS]; omega))
   | ((with_reducible refine gWl ?_); first
    | refine Xfu 27 rfl rfl rfl (by first | rfl | simp [sln]) ?_
    | refine Xfd 26 (.agg [.i .i64 4, .by [], .b false]) rfl rfl (by first | (simp [AsD, Frzs, Frz, isSl, sln, slOk]; done) | (repeat' (first | rfl | trivial | refine ⟨rfl, rfl, by simp [slOk]⟩ | refine ⟨_, _, rfl, ?_, ?_⟩ | refine ⟨_, rfl, ?_⟩))) rfl ?_
    | (refine Wl_isMv rfl ?_; refine Xmv eok rfl rfl rfl rfl ?_)
    | refine Xq eok rfl rfl rfl rfl ?_ ?_
    | refine Xn [0, 3, 4, 5, 6, 7, 8, 10, 11, 12, 13, 14, 15, 16, 73] rfl ?_
    | refine XF (w3) rfl rfl rfl rfl ?_
    | refine XF (w4) rfl rfl rfl rfl ?_
    | refine XF (w5) rfl rfl rfl rfl ?_
    | refine XF (w6) rfl rfl rfl rfl ?_
    | refine XF (w7) rfl rfl rfl rfl ?_
    | refine XF (w8) rfl rfl rfl rfl ?_
    | refine XF (w9) rfl rfl rfl rfl ?_
    | refine XF (w10) rfl rfl rfl rfl ?_
    | refine XF (w11) rfl rfl rfl rfl ?_
    | refine XFz (w1) rfl rfl rfl rfl (by first | (simp [AsD, Frzs, Frz, isSl, sln, slOk]; done) | (repeat' (first | rfl | trivial | refine ⟨rfl, rfl, by simp [slOk]⟩ | refine ⟨_, _, rfl, ?_, ?_⟩ | refine ⟨_, rfl, ?_⟩))) ?_
    | refine XFz (w2) rfl rfl rfl rfl (by first | (simp [AsD, Frzs, Frz, isSl, sln, slOk]; done) | (repeat' (first | rfl | trivial | refine ⟨rfl, rfl, by simp [slOk]⟩ | refine ⟨_, _, rfl, ?_, ?_⟩ | refine ⟨_, rfl, ?_⟩))) ?_
    | refine Xa eok rfl rfl rfl rfl rfl ?_ ?_
    | refine Xw eok rfl rfl rfl rfl ?_ ?_
    | refine Xs rfl rfl rfl ?_
    | (refine Xsplit rfl rfl (fun hc => ?_) (fun hc => ?_) <;> (fail_if_success (with_reducible first | exact absurd (hc : true = false) (by decide) | exact absurd (hc : false = true) (by decide))) <;> (try simp only [decide_eq_true_eq, decide_eq_false_iff_not, Bool.not_eq_true', Bool.not_eq_false', beq_iff_eq, beq_eq_false_iff_ne, bne_iff_ne, bne_eq_false_iff_eq, ne_eq, Int.not_lt, Int.not_le, ge_iff_le, gt_iff_lt] at hc) <;> (try (exfalso; omega))))
   | refine W_seq ?_
   | refine W_region ?_
   | refine W_skip ?_
   | refine W_ret ?_
   | refine W_block ?_
   | refine W_exit ?_
   | refine W_cond_t rfl ?_
   | refine W_cond_f rfl ?_
   | (refine W_cond rfl (fun hc => ?_) (fun hc => ?_) <;> (try simp only [decide_eq_true_eq, decide_eq_false_iff_not, Bool.not_eq_true', Bool.not_eq_false', beq_iff_eq, beq_eq_false_iff_ne, bne_iff_ne, bne_eq_false_iff_eq, ne_eq, Int.not_lt, Int.not_le, ge_iff_le, gt_iff_lt] at hc) <;> (try (exfalso; omega))))
  refine ⟨_, _, rfl, rfl, ?_⟩; simp [Frz_tup, Frz_ag, Frzs_cons, Frzs_nil, Frz_d, Frz_e0, Frz_sl, sln, isSl, slOk]
end Go.Proofs.Ytgnddlldcglpfaa
