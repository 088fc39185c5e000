/- Written by a program (pre.py) from the source of the same name. -/
/- Numbers: the document's answers. -/
import Derived.Test.YtbpemnmpcljbpaaGreatNum5
set_option linter.unusedSimpArgs false
set_option linter.unusedVariables false
set_option linter.unnecessarySimpa false
namespace Go.Proofs.YtbpemnmpcljbpaaGreat
open Go.Gar
set_option maxRecDepth 4000

/-- The last k digits. -/
def lowd (n k : Nat) : List UInt8 := (List.range k).map fun j => dig n (k - 1 - j)
theorem lowd_succ (n k : Nat) : lowd n (k + 1) = dig n k :: lowd n k := by
  simp only [lowd, List.range_succ_eq_map, List.map_cons, List.map_map]
  refine congr (congrArg _ (by simp)) ?_
  apply List.map_congr_left
  intro j _
  simp only [Function.comp]
  congr 1; omega
theorem fitsI_nat (a : Nat) (h : a < 4611686018427387904) : fitsI .i64 (a : Int) = true := by
  simp only [fitsI, Bool.and_eq_true, decide_eq_true_eq]; constructor <;> omega
theorem size_pos {n k : Nat} : 0 < n / 256 ^ k ↔ k < size n := by
  have hp : 0 < 256 ^ k := Nat.pow_pos (by decide)
  rw [Nat.div_pos_iff]
  have e : 256 ^ k = 2 ^ (8 * k) := by rw [Nat.pow_mul]
  obtain ⟨h1, h2⟩ := (len64_iff (n := n) (k := len64 n)).1 rfl
  unfold size
  constructor
  · rintro ⟨_, h⟩
    rcases Nat.lt_or_ge (8 * k) (len64 n) with h3 | h3
    · omega
    · have : 2 ^ len64 n ≤ 2 ^ (8 * k) := Nat.pow_le_pow_right (by decide) h3
      omega
  · intro h
    refine ⟨hp, ?_⟩
    rcases h2 with h2 | h2
    · omega
    · have : 2 ^ (8 * k) ≤ 2 ^ (len64 n - 1) := Nat.pow_le_pow_right (by decide) (by omega)
      omega

set_option maxHeartbeats 4000000 in
theorem rput_fn (n : Int) : Go.Gar.Fn Tryz.prog 61 [.i .i64 n] (.tup [.by (putS n).1, .i .i64 (putS n).2]) := by
  by_cases hf : fits n = true
  · obtain ⟨m, rfl, hm⟩ := fits_nat hf
    have hs := size_le m (by omega)
    refine Fn_of_W eok Tryz.func61 rfl rfl (Nat.le_of_ble_eq_true rfl) ?_
    have nS := True.intro
    repeat' (first|((with_reducible refine sg ?_);first|with_reducible rfl|((with_reducible refine fitG ?_);first|kernel_rfl|rfl|(simp [fitT,fitF,nS];done))|with_reducible refine andT ?_ ?_|with_reducible exact Nat.beq_refl _|with_reducible exact fitsI_u8 _|((with_reducible refine decide_eq_true ?_);first|omega|(simp only [SZl,nS];omega))|decide|(simp [SZl,slc,allOneD,D.one,allOne,AV.one,nS];done)|(simp [SZl,nS];omega))|((with_reducible refine gWl ?_);first|(refine Wl_isMv rfl ?_;refine Xmv eok rfl rfl rfl rfl ?_)|refine Xq eok rfl rfl rfl rfl ?_ ?_|refine Xn [0,2,3,4,10,12] rfl ?_|refine Xw eok rfl rfl rfl rfl ?_ ?_|refine Xs rfl rfl rfl ?_|(refine Xsplit rfl rfl (fun hc => ?_) (fun hc => ?_) <;> (fail_if_success (with_reducible first|exact tF hc|exact fT hc)) <;> (try simp only [HCl] at hc) <;> (try (exfalso;omega))))|refine W_seq ?_|refine W_region ?_|refine W_skip ?_|refine W_ret ?_|refine W_block ?_|refine W_exit ?_|refine W_cond_t rfl ?_|refine W_cond_f rfl ?_|(refine W_cond rfl (fun hc => ?_) (fun hc => ?_) <;> (try simp only [HCl] at hc) <;> (try (exfalso;omega))))
    refine W_ghost (TSub.e0 4 (.by []) rfl rfl rfl trivial) (by simp) ?_
    refine W_loopI (fun k => k ≤ size m) (fun k : Nat => ⟨[(0, .d (.i .i64 (m / 256 ^ k : Nat))), (2, .e0), (3, .d (.i .i64 0)), (4, .d (.by (lowd m k)))], [], 27⟩) (fun k => size m - k) 0 (Nat.zero_le _) ?_ (by simp) ?_
    · exact TSub.cut rfl (by repeat' (first | exact True.intro | refine And.intro (by (first | rfl | ((with_reducible_and_instances refine congrArg (fun z => some (AV.d (D.i _ z))) ?_); omega) | (refine congrArg (fun z => some (AV.d (D.i _ z))) (?_ : (_ : Int) = _); omega) | (refine congrArg some ?_; simp; done))) ?_)) (by repeat' (first | exact True.intro | refine And.intro (Or.inr rfl) ?_ | refine And.intro (Or.inl ⟨rfl, rfl⟩) ?_ | refine And.intro (Or.inr (by simp)) ?_)) (by first | rfl | (simp (decide := true) [heapOk, Blk.ok, AV.oks, AV.ok, hk]; done)) rfl
    intro k hk
    have hsp := size_pos (n := m) (k := k)
    have hle : m / 256 ^ k ≤ m := Nat.div_le_self _ _
    have hll : (lowd m k).length = k := by simp [lowd]
    by_cases hkm : k < size m
    · have hp := hsp.2 hkm
      have e1 : ((m / 256 ^ k : Nat) : Int).tmod 256 = ((m / 256 ^ k % 256 : Nat) : Int) := by
        rw [Int.tmod_eq_emod_of_nonneg (by omega)]; rfl
      have e2 : ((m / 256 ^ k % 256 : Nat) : Int) % 256 = ((m / 256 ^ k % 256 : Nat) : Int) := by omega
      have e3 : ((m / 256 ^ k : Nat) : Int).tdiv 256 = ((m / 256 ^ (k + 1) : Nat) : Int) := by
        rw [Int.tdiv_eq_ediv_of_nonneg (by omega), Nat.pow_succ, ← Nat.div_div_eq_div_mul]; rfl
      have e4 : (UInt8.ofNat (m / 256 ^ k % 256) :: lowd m k) = lowd m (k + 1) := (lowd_succ m k).symm
      have hle' : m / 256 ^ (k + 1) ≤ m := Nat.div_le_self _ _
      have nS := And.intro e1 (And.intro e2 (And.intro e3 e4))
      repeat' (first|((with_reducible refine sg ?_);first|with_reducible rfl|((with_reducible refine fitG ?_);first|kernel_rfl|rfl|(simp [fitT,fitF,nS];done))|with_reducible refine andT ?_ ?_|with_reducible exact Nat.beq_refl _|with_reducible exact fitsI_u8 _|((with_reducible refine decide_eq_true ?_);first|omega|(simp only [SZl,nS];omega))|decide|(simp [SZl,slc,allOneD,D.one,allOne,AV.one,nS];done)|(simp [SZl,nS];omega))|((with_reducible refine gWl ?_);first|(refine Wl_isMv rfl ?_;refine Xmv eok rfl rfl rfl rfl ?_)|refine XaoL [16] eok rfl rfl rfl rfl rfl rfl ?_ ?_|refine Xq eok rfl rfl rfl rfl ?_ ?_|refine Xn [0,2,3,4,10,12] rfl ?_|refine Xw eok rfl rfl rfl rfl ?_ ?_|refine Xs rfl rfl rfl ?_|(refine Xsplit rfl rfl (fun hc => ?_) (fun hc => ?_) <;> (fail_if_success (with_reducible first|exact tF hc|exact fT hc)) <;> (try simp only [HCl] at hc) <;> (try (exfalso;omega))))|refine W_seq ?_|refine W_region ?_|refine W_skip ?_|refine W_ret ?_|refine W_block ?_|refine W_exit ?_|refine W_cond_t rfl ?_|refine W_cond_f rfl ?_|(refine W_cond rfl (fun hc => ?_) (fun hc => ?_) <;> (try simp only [HCl] at hc) <;> (try (exfalso;omega))))
      rotate_left
      · rw [e3]; exact andT rfl (fitsI_nat _ (by omega))
      refine ⟨k + 1, hkm, by omega, Nat.zero_le _, ?_⟩
      refine TSub.trans' (TSub.frz1 4 0 (x := .by (lowd m (k + 1))) (congrArg (fun z => some (Blk.a (D.by z))) e4) rfl rfl) ?_ (Nat.zero_le _)
      exact TSub.cut rfl (by repeat' (first | exact True.intro | refine And.intro (by (first | rfl | ((with_reducible_and_instances refine congrArg (fun z => some (AV.d (D.i _ z))) ?_); omega) | (refine congrArg (fun z => some (AV.d (D.i _ z))) (?_ : (_ : Int) = _); omega) | (refine congrArg some ?_; simp; done))) ?_)) (by repeat' (first | exact True.intro | refine And.intro (Or.inr rfl) ?_ | refine And.intro (Or.inl ⟨rfl, rfl⟩) ?_ | refine And.intro (Or.inr (by simp)) ?_)) (by first | rfl | (simp (decide := true) [heapOk, Blk.ok, AV.oks, AV.ok, hk]; done)) rfl
    · have e : k = size m := by omega
      subst e
      have h0 : m / 256 ^ size m = 0 := Nat.eq_zero_of_not_pos (fun h => absurd (hsp.1 h) (Nat.lt_irrefl _))
      have e5 : ((size m : Nat) : Int) % 256 = size m := by omega
      have e6 : lowd m (size m) = digs m := rfl
      have e7 : (digs m).length = size m := by simp [digs]
      have nS := And.intro h0 (And.intro e5 (And.intro e6 e7))
      repeat' (first|((with_reducible refine sg ?_);first|with_reducible rfl|((with_reducible refine fitG ?_);first|kernel_rfl|rfl|(simp [fitT,fitF,nS];done))|with_reducible refine andT ?_ ?_|with_reducible exact Nat.beq_refl _|with_reducible exact fitsI_u8 _|((with_reducible refine decide_eq_true ?_);first|omega|(simp only [SZl,nS];omega))|decide|(simp [SZl,slc,allOneD,D.one,allOne,AV.one,nS];done)|(simp [SZl,nS];omega))|((with_reducible refine gWl ?_);first|(refine Wl_isMv rfl ?_;refine Xmv eok rfl rfl rfl rfl ?_)|refine XaoL [24] eok rfl rfl rfl rfl rfl rfl ?_ ?_|refine Xq eok rfl rfl rfl rfl ?_ ?_|refine Xn [0,2,3,4,10,12] rfl ?_|refine Xw eok rfl rfl rfl rfl ?_ ?_|refine Xs rfl rfl rfl ?_|(refine Xsplit rfl rfl (fun hc => ?_) (fun hc => ?_) <;> (fail_if_success (with_reducible first|exact tF hc|exact fT hc)) <;> (try simp only [HCl] at hc) <;> (try (exfalso;omega))))|refine W_seq ?_|refine W_region ?_|refine W_skip ?_|refine W_ret ?_|refine W_block ?_|refine W_exit ?_|refine W_cond_t rfl ?_|refine W_cond_f rfl ?_|(refine W_cond rfl (fun hc => ?_) (fun hc => ?_) <;> (try simp only [HCl] at hc) <;> (try (exfalso;omega))))
      refine ⟨_, _, rfl, rfl, ?_⟩; simp [Frz_tup, Frz_ag, Frzs_cons, Frzs_nil, Frz_d, Frz_e0, Frz_sl, sln, isSl, slOk, putS, hf, numB, e6, e7]
  · have hf' : fits n = false := by simpa using hf
    have hc' : n < 0 ∨ n > 1099511627776 := by simp [fits] at hf'; omega
    refine Fn_of_W eok Tryz.func61 rfl rfl (Nat.le_of_ble_eq_true rfl) ?_
    have nS := True.intro
    repeat' (first|((with_reducible refine sg ?_);first|with_reducible rfl|((with_reducible refine fitG ?_);first|kernel_rfl|rfl|(simp [fitT,fitF,nS];done))|with_reducible refine andT ?_ ?_|with_reducible exact Nat.beq_refl _|with_reducible exact fitsI_u8 _|((with_reducible refine decide_eq_true ?_);first|omega|(simp only [SZl,nS];omega))|decide|(simp [SZl,slc,allOneD,D.one,allOne,AV.one,nS];done)|(simp [SZl,nS];omega))|((with_reducible refine gWl ?_);first|(refine Wl_isMv rfl ?_;refine Xmv eok rfl rfl rfl rfl ?_)|refine Xq eok rfl rfl rfl rfl ?_ ?_|refine Xn [0,2,3,4,10,12] rfl ?_|refine Xw eok rfl rfl rfl rfl ?_ ?_|refine Xs rfl rfl rfl ?_|(refine Xsplit rfl rfl (fun hc => ?_) (fun hc => ?_) <;> (fail_if_success (with_reducible first|exact tF hc|exact fT hc)) <;> (try simp only [HCl] at hc) <;> (try (exfalso;omega))))|refine W_seq ?_|refine W_region ?_|refine W_skip ?_|refine W_ret ?_|refine W_block ?_|refine W_exit ?_|refine W_cond_t rfl ?_|refine W_cond_f rfl ?_|(refine W_cond rfl (fun hc => ?_) (fun hc => ?_) <;> (try simp only [HCl] at hc) <;> (try (exfalso;omega))))
    all_goals first
      | (refine ⟨_, _, rfl, rfl, ?_⟩; simp [Frz_tup, Frz_ag, Frzs_cons, Frzs_nil, Frz_d, Frz_e0, Frz_sl, sln, isSl, slOk, putS, hf']; done)
      | (exfalso; omega)
end Go.Proofs.YtbpemnmpcljbpaaGreat
