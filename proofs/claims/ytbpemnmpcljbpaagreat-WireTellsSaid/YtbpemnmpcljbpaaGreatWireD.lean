/- Written by a program (pre.py) from the source of the same name. -/
/- The sum of bytes: the bits of a byte, of a row. -/
import Derived.Test.YtbpemnmpcljbpaaGreatWireC
import Derived.Test.YtbpemnmpcljbpaaGreatFwE
set_option linter.unusedSimpArgs false
set_option linter.unusedVariables false
set_option linter.unnecessarySimpa false
namespace Go.Proofs.YtbpemnmpcljbpaaGreat
namespace Wi
open Go.Gar
set_option maxRecDepth 4000

def bits8 (d : UInt8) : List Bool := (List.range 8).map fun k => d.toNat.testBit (7 - k)
def bitsB (l : List UInt8) : List Bool := l.flatMap bits8
theorem bit_tab : ∀ (d : Fin 256) (i : Fin 8), (bitsI .and .u8 ((d.1 : Int).fdiv (2 ^ min ((i.1 : Nat) : Int).toNat IntKind.u8.bits)) 1 == 1) = d.1.testBit i.1 := by decide +kernel
theorem bit_at (d : UInt8) (i : Int) (h : 0 ≤ i) (h' : i ≤ 7) : (bitsI .and .u8 ((d.toNat : Int).fdiv (2 ^ min i.toNat IntKind.u8.bits)) 1 == 1) = d.toNat.testBit i.toNat := by
  obtain ⟨n, rfl⟩ : ∃ n : Nat, i = n := ⟨i.toNat, by omega⟩
  exact bit_tab ⟨d.toNat, d.toNat_lt⟩ ⟨n, by omega⟩
theorem bits8_take (d : UInt8) (k : Nat) (h : k < 8) : (bits8 d).take (k + 1) = (bits8 d).take k ++ [d.toNat.testBit (7 - k)] := by
  rw [List.take_succ_eq_append_getElem (by simp [bits8]; exact h)]
  simp [bits8]

def sumH (l : List UInt8) (r : Lp) (s : BitVec 32) : List Blk := [.c [.d (u32 s)], .c [.d (.by l)], .lp r]
set_option maxHeartbeats 4000000 in
theorem steps_fn (d : UInt8) (l : List UInt8) (r : Lp) (s : BitVec 32) (hk : envOk 3 r.env = true) (hY : ∀ s b, YT Tryz.prog 2 [.d (.b b)] (sumH l r s) fun x K => x = .d (.b true) ∧ K = sumH l r (cstep s b)) :
    FnT Tryz.prog 109 [.d (.i .u8 d.toNat), .yl 2] (sumH l r s) fun x K => x = .d (.b true) ∧ K = sumH l r (crun s (bits8 d)) := by
  refine FnT_of_G eok Tryz.func109 rfl rfl (Nat.le_of_ble_eq_true rfl) ?_
  unfold sumH at hY ⊢
  have hb : ∀ k : Nat, k < 8 → cstep (crun s ((bits8 d).take k)) (bitsI .and .u8 ((d.toNat : Int).fdiv (2 ^ min (7 - (k : Int)).toNat IntKind.u8.bits)) 1 == 1) = crun s ((bits8 d).take (k + 1)) := by
    intro k hk
    rw [bit_at d (7 - k) (by omega) (by omega), bits8_take d k hk, crun_app, show (7 - (k : Int)).toNat = 7 - k by omega]
    rfl
  have nS := True.intro
  repeat' (first|((with_reducible refine sg ?_);first|with_reducible rfl|((with_reducible refine fitG ?_);first|kernel_rfl|rfl|(simp [fitT,fitF,nS];done))|with_reducible refine andT ?_ ?_|with_reducible exact Nat.beq_refl _|with_reducible exact fitsI_u8 _|((with_reducible refine decide_eq_true ?_);first|omega|(simp only [SZl,nS];omega))|decide|(simp [SZl,slc,allOneD,D.one,allOne,AV.one,nS];done)|(simp [SZl,nS];omega))|((with_reducible refine gWl ?_);first|(refine Wl_isMv rfl ?_;refine Xmv eok rfl rfl rfl rfl ?_)|refine Xq eok rfl rfl rfl rfl ?_ ?_|refine Xn [0,1,4,5,13,17] rfl ?_)|refine W_seq ?_|refine W_region ?_|refine W_skip ?_|refine W_ret ?_|refine W_block ?_|refine W_exit ?_|refine W_goto ?_|refine W_label ?_|refine W_cond_t rfl ?_|refine W_cond_f rfl ?_|(refine W_cond rfl (fun hc => ?_) (fun hc => ?_) <;> (try simp only [HCl] at hc) <;> (try (exfalso;omega))))
  refine W_scopeI 0 _ (fun k : Nat => 1 ≤ k ∧ k < 8) (fun k : Nat => ⟨[(0, .d (.i .u8 d.toNat)), (1, .yl 2), (4, .d (.b false)), (5, .d (.i .i64 (7 - k)))], [.c [.d (u32 (crun s ((bits8 d).take k)))], .c [.d (.by l)], .lp r], 18⟩) (fun k => 8 - k) 8 2 2 rfl ?_ ?_
  · have h0 : cstep s (bitsI .and .u8 ((d.toNat : Int).fdiv (2 ^ min 7 8)) 1 == 1) = crun s ((bits8 d).take 1) := hb 0 (by omega)
    have nS := True.intro
    repeat' (first|((with_reducible refine sg ?_);first|with_reducible rfl|((with_reducible refine fitG ?_);first|kernel_rfl|rfl|(simp [fitT,fitF,nS];done))|with_reducible refine andT ?_ ?_|with_reducible exact Nat.beq_refl _|with_reducible exact fitsI_u8 _|((with_reducible refine decide_eq_true ?_);first|omega|(simp only [SZl,nS];omega))|decide|(simp [SZl,slc,allOneD,D.one,allOne,AV.one,nS];done)|(simp [SZl,nS];omega))|((with_reducible refine gWl ?_);first|(refine Wl_isMv rfl ?_;refine Xmv eok rfl rfl rfl rfl ?_)|refine Xq eok rfl rfl rfl rfl ?_ ?_|refine Xn [0,1,4,5,13,17] rfl ?_|refine Xy (hY _ _) rfl rfl rfl rfl rfl ?_)|refine W_seq ?_|refine W_region ?_|refine W_skip ?_|refine W_ret ?_|refine W_block ?_|refine W_exit ?_|refine W_goto ?_|refine W_label ?_|refine W_cond_t rfl ?_|refine W_cond_f rfl ?_|(refine W_cond rfl (fun hc => ?_) (fun hc => ?_) <;> (try simp only [HCl] at hc) <;> (try (exfalso;omega))))
    refine ⟨1, ⟨by omega, by omega⟩, (show 8 - 1 < 8 by omega), Nat.le_of_ble_eq_true rfl, ?_⟩
    exact TSub.cut rfl (by repeat' (first | exact True.intro | refine And.intro (by (first | rfl | ((with_reducible_and_instances refine congrArg (fun z => some (AV.d (D.i _ z))) ?_); omega) | (refine congrArg (fun z => some (AV.d (D.i _ z))) (?_ : (_ : Int) = _); omega) | (refine congrArg some ?_; simp only [h0]; done) | (refine congrArg some ?_; simp [h0]; done))) ?_)) (by repeat' (first | exact True.intro | refine And.intro (Or.inr rfl) ?_ | refine And.intro (Or.inl ⟨rfl, rfl⟩) ?_ | refine And.intro (Or.inr (by simp only [h0])) ?_ | refine And.intro (Or.inr (by simp [h0])) ?_)) (by first | rfl | (simp (decide := true) [heapOk, Blk.ok, AV.oks, AV.ok, hk]; done)) rfl
  · rintro k ⟨k1, k8⟩
    have h0 := hb k k8
    have e7 : (7 - (k : Int)).toNat = 7 - k := by omega
    have h1 := h0
    rw [e7, show IntKind.u8.bits = 8 from rfl] at h1
    by_cases h : k + 1 < 8
    · have nS := True.intro
      repeat' (first|((with_reducible refine sg ?_);first|with_reducible rfl|((with_reducible refine fitG ?_);first|kernel_rfl|rfl|(simp [fitT,fitF,nS];done))|with_reducible refine andT ?_ ?_|with_reducible exact Nat.beq_refl _|with_reducible exact fitsI_u8 _|((with_reducible refine decide_eq_true ?_);first|omega|(simp only [SZl,nS];omega))|decide|(simp [SZl,slc,allOneD,D.one,allOne,AV.one,nS];done)|(simp [SZl,nS];omega))|((with_reducible refine gWl ?_);first|(refine Wl_isMv rfl ?_;refine Xmv eok rfl rfl rfl rfl ?_)|refine Xq eok rfl rfl rfl rfl ?_ ?_|refine Xn [0,1,4,5,13,17] rfl ?_|refine Xy (hY _ _) rfl rfl rfl rfl rfl ?_)|refine W_seq ?_|refine W_region ?_|refine W_skip ?_|refine W_ret ?_|refine W_block ?_|refine W_exit ?_|refine W_goto ?_|refine W_label ?_|refine W_cond_t rfl ?_|refine W_cond_f rfl ?_|(refine W_cond rfl (fun hc => ?_) (fun hc => ?_) <;> (try simp only [HCl] at hc) <;> (try (exfalso;omega))))
      refine ⟨k + 1, ⟨by omega, h⟩, (show 8 - (k + 1) < 8 - k by omega), Nat.le_of_ble_eq_true rfl, ?_⟩
      exact TSub.cut rfl (by repeat' (first | exact True.intro | refine And.intro (by (first | rfl | ((with_reducible_and_instances refine congrArg (fun z => some (AV.d (D.i _ z))) ?_); omega) | (refine congrArg (fun z => some (AV.d (D.i _ z))) (?_ : (_ : Int) = _); omega) | (refine congrArg some ?_; simp only [h0, h1]; done) | (refine congrArg some ?_; simp [h0, h1]; done))) ?_)) (by repeat' (first | exact True.intro | refine And.intro (Or.inr rfl) ?_ | refine And.intro (Or.inl ⟨rfl, rfl⟩) ?_ | refine And.intro (Or.inr (by simp only [h0, h1])) ?_ | refine And.intro (Or.inr (by simp [h0, h1])) ?_)) (by first | rfl | (simp (decide := true) [heapOk, Blk.ok, AV.oks, AV.ok, hk]; done)) rfl
    · have hf : (bits8 d).take (k + 1) = bits8 d := List.take_of_length_le (by simp [bits8]; omega)
      rw [hf] at h0 h1
      have nS := True.intro
      repeat' (first|((with_reducible refine sg ?_);first|with_reducible rfl|((with_reducible refine fitG ?_);first|kernel_rfl|rfl|(simp [fitT,fitF,nS];done))|with_reducible refine andT ?_ ?_|with_reducible exact Nat.beq_refl _|with_reducible exact fitsI_u8 _|((with_reducible refine decide_eq_true ?_);first|omega|(simp only [SZl,nS];omega))|decide|(simp [SZl,slc,allOneD,D.one,allOne,AV.one,nS];done)|(simp [SZl,nS];omega))|((with_reducible refine gWl ?_);first|(refine Wl_isMv rfl ?_;refine Xmv eok rfl rfl rfl rfl ?_)|refine Xq eok rfl rfl rfl rfl ?_ ?_|refine Xn [0,1,4,5,13,17] rfl ?_|refine Xy (hY _ _) rfl rfl rfl rfl rfl ?_)|refine W_seq ?_|refine W_region ?_|refine W_skip ?_|refine W_ret ?_|refine W_block ?_|refine W_exit ?_|refine W_goto ?_|refine W_label ?_|refine W_cond_t rfl ?_|refine W_cond_f rfl ?_|(refine W_cond rfl (fun hc => ?_) (fun hc => ?_) <;> (try simp only [HCl] at hc) <;> (try (exfalso;omega))))
      refine ⟨_, TSub.refl _, Nat.le_refl _, _, _, rfl, rfl, rfl, ?_⟩
      simp only [e7, h1]
end Wi
end Go.Proofs.YtbpemnmpcljbpaaGreat
