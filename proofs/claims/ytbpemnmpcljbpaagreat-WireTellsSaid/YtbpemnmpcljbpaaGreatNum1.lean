/- Written by a program (pre.py) from the source of the same name. -/
/- Numbers: how many bytes, which. -/
import Derived.Test.YtbpemnmpcljbpaaGreatItem1
import Derived.Test.YtbpemnmpcljbpaaGreatFwC
set_option linter.unusedSimpArgs false
set_option linter.unusedVariables false
set_option linter.unnecessarySimpa false
namespace Go.Proofs.YtbpemnmpcljbpaaGreat
open Go.Gar
set_option maxRecDepth 4000

def fits (n : Int) : Bool := decide (n ≥ 0) && decide (n ≤ 1099511627776)

theorem fits_fn (n : Int) : Go.Gar.Fn Tryz.prog 104 [.i .i64 n] (.b (fits n)) := by
  refine Fn_of_W eok Tryz.func104 rfl rfl (Nat.le_of_ble_eq_true rfl) ?_
  have nS := True.intro
  repeat' (first|((with_reducible refine sg ?_);first|with_reducible rfl|((with_reducible refine fitG ?_);first|kernel_rfl|rfl|(simp [fitT,fitF,nS];done))|with_reducible refine andT ?_ ?_|with_reducible exact Nat.beq_refl _|with_reducible exact fitsI_u8 _|((with_reducible refine decide_eq_true ?_);first|omega|(simp only [SZl,nS];omega))|decide|(simp [SZl,slc,allOneD,D.one,allOne,AV.one,nS];done)|(simp [SZl,nS];omega))|((with_reducible refine gWl ?_);first|(refine Wl_isMv rfl ?_;refine Xmv eok rfl rfl rfl rfl ?_)|refine Xq eok rfl rfl rfl rfl ?_ ?_|refine Xn [0,2] rfl ?_|refine Xs rfl rfl rfl ?_|(refine Xsplit rfl rfl (fun hc => ?_) (fun hc => ?_) <;> (fail_if_success (with_reducible first|exact tF hc|exact fT hc)) <;> (try simp only [HCl] at hc) <;> (try (exfalso;omega))))|refine W_seq ?_|refine W_region ?_|refine W_skip ?_|refine W_ret ?_|refine W_block ?_|refine W_exit ?_|refine W_cond_t rfl ?_|refine W_cond_f rfl ?_|(refine W_cond rfl (fun hc => ?_) (fun hc => ?_) <;> (try simp only [HCl] at hc) <;> (try (exfalso;omega))))
  all_goals (refine ⟨_, _, rfl, rfl, ?_⟩; simp_all [Frz, fits] <;> omega)

def len64 (n : Nat) : Nat := if n = 0 then 0 else n.log2 + 1
theorem len64_iff {n k : Nat} : len64 n = k ↔ n < 2 ^ k ∧ (k = 0 ∨ 2 ^ (k - 1) ≤ n) := by
  unfold len64
  split
  · rename_i h; subst h
    constructor
    · intro h; subst h; simp
    · rintro ⟨h1, h2 | h2⟩
      · exact h2.symm
      · have : 0 < 2 ^ (k - 1) := Nat.two_pow_pos _
        omega
  · rename_i h
    constructor
    · intro hk
      subst hk
      exact ⟨Nat.lt_log2_self, .inr (by simpa using Nat.log2_self_le h)⟩
    · rintro ⟨h1, h2⟩
      have h2' : k ≠ 0 := fun e => by subst e; simp at h1; omega
      have h2 : 2 ^ (k - 1) ≤ n := by rcases h2 with h2 | h2; exact absurd h2 h2'; exact h2
      have := (Nat.log2_eq_iff h).2 ⟨h2, by rwa [show k - 1 + 1 = k by omega]⟩
      omega
theorem len64_shift {n k : Nat} (h : 2 ^ k ≤ n) : len64 n = len64 (n / 2 ^ k) + k := by
  rw [len64_iff]
  have hp : 0 < 2 ^ k := Nat.two_pow_pos k
  obtain ⟨h1, h2⟩ := (len64_iff (n := n / 2 ^ k)).1 rfl
  have hne : 0 < n / 2 ^ k := Nat.div_pos h hp
  have hk : len64 (n / 2 ^ k) ≠ 0 := fun e => by rw [e] at h1; simp at h1; omega
  have h2 : 2 ^ (len64 (n / 2 ^ k) - 1) ≤ n / 2 ^ k := by rcases h2 with h2 | h2; exact absurd h2 hk; exact h2
  refine ⟨?_, .inr ?_⟩
  · rw [Nat.pow_add]; exact (Nat.div_lt_iff_lt_mul hp).1 h1
  · rw [show len64 (n / 2 ^ k) + k - 1 = (len64 (n / 2 ^ k) - 1) + k by omega, Nat.pow_add]
    exact (Nat.le_div_iff_mul_le hp).1 h2
def tab8 : List UInt8 := [0, 1, 2, 2, 3, 3, 3, 3, 4, 4, 4, 4, 4, 4, 4, 4, 5, 5, 5, 5, 5, 5, 5, 5, 5, 5, 5, 5, 5, 5, 5, 5, 6, 6, 6, 6, 6, 6, 6, 6, 6, 6, 6, 6, 6, 6, 6, 6, 6, 6, 6, 6, 6, 6, 6, 6, 6, 6, 6, 6, 6, 6, 6, 6, 7, 7, 7, 7, 7, 7, 7, 7, 7, 7, 7, 7, 7, 7, 7, 7, 7, 7, 7, 7, 7, 7, 7, 7, 7, 7, 7, 7, 7, 7, 7, 7, 7, 7, 7, 7, 7, 7, 7, 7, 7, 7, 7, 7, 7, 7, 7, 7, 7, 7, 7, 7, 7, 7, 7, 7, 7, 7, 7, 7, 7, 7, 7, 7, 8, 8, 8, 8, 8, 8, 8, 8, 8, 8, 8, 8, 8, 8, 8, 8, 8, 8, 8, 8, 8, 8, 8, 8, 8, 8, 8, 8, 8, 8, 8, 8, 8, 8, 8, 8, 8, 8, 8, 8, 8, 8, 8, 8, 8, 8, 8, 8, 8, 8, 8, 8, 8, 8, 8, 8, 8, 8, 8, 8, 8, 8, 8, 8, 8, 8, 8, 8, 8, 8, 8, 8, 8, 8, 8, 8, 8, 8, 8, 8, 8, 8, 8, 8, 8, 8, 8, 8, 8, 8, 8, 8, 8, 8, 8, 8, 8, 8, 8, 8, 8, 8, 8, 8, 8, 8, 8, 8, 8, 8, 8, 8, 8, 8, 8, 8, 8, 8, 8, 8, 8, 8, 8, 8, 8, 8, 8, 8]
theorem tab8_ok : ∀ n : Fin 256, (tab8.getD n.1 0).toNat = len64 n.1 := by decide +kernel
theorem fitsI_lit_u8 (a : Int) (h : (decide (0 ≤ a) && decide (a ≤ 4611686018427387904)) = true) (u : UInt8) : fitsI .i64 (a + (u.toNat : Int)) = true := by
  have := u.toNat_lt; simp [fitsI] at h ⊢; omega
theorem inR_mod (y : Int) : inR (y % 256) tab8.length = true := by
  have : tab8.length = 256 := by decide +kernel
  rw [this, inR_iff]; omega
theorem tab8_at (y : Int) (h : 0 ≤ y) (h' : y < 256) : ((tab8.getD (y % 256).toNat 0).toNat : Int) = (len64 y.toNat : Int) := by
  have := tab8_ok ⟨y.toNat, by omega⟩
  simp only at this
  rw [← this]; congr 4; omega
theorem len_fin (x k : Nat) (h : 2 ^ k ≤ x) (h' : x / 2 ^ k < 256) (y : Int) (hy : y = ((x / 2 ^ k : Nat) : Int)) : (len64 x : Int) = (k : Int) + ((tab8.getD (y % 256).toNat 0).toNat : Int) := by
  subst hy
  have := len64_shift h
  rw [tab8_at _ (Int.natCast_nonneg _) (Int.ofNat_lt.2 h'), Int.toNat_natCast]
  omega
theorem len_fin0 (x : Nat) (h' : x < 256) : (len64 x : Int) = ((tab8.getD ((x : Int) % 256).toNat 0).toNat : Int) := by
  rw [tab8_at x (by omega) (by omega), Int.toNat_natCast]
set_option maxHeartbeats 4000000 in
theorem len64_fn (x : Nat) (hx : x < 18446744073709551616) : Go.Gar.Fn Tryz.prog 113 [.i .u64 x] (.i .i64 (len64 x)) := by
  refine Fn_of_W eok Tryz.func113 rfl rfl (Nat.le_of_ble_eq_true rfl) ?_
  have nS := True.intro
  repeat' (first|((with_reducible refine sg ?_);first|with_reducible rfl|((with_reducible refine fitG ?_);first|kernel_rfl|rfl|(simp [fitT,fitF,nS];done))|with_reducible refine andT ?_ ?_|with_reducible exact Nat.beq_refl _|with_reducible exact fitsI_u8 _|((with_reducible refine decide_eq_true ?_);first|omega|(simp only [SZl,nS];omega))|decide|(simp [SZl,slc,allOneD,D.one,allOne,AV.one,nS];done)|(simp [SZl,nS];omega))|((with_reducible refine gWl ?_);first|(refine Wl_isMv rfl ?_;refine Xmv eok rfl rfl rfl rfl ?_)|refine Xq eok rfl rfl rfl rfl ?_ ?_|refine Xn [0,2,4,8,14] rfl ?_)|refine W_seq ?_|refine W_region ?_|refine W_skip ?_|refine W_ret ?_|refine W_block ?_|refine W_exit ?_|refine W_cond_t rfl ?_|refine W_cond_f rfl ?_|(refine W_cond rfl (fun hc => ?_) (fun hc => ?_) <;> (try simp only [HCl] at hc) <;> (try (exfalso;omega))))
  all_goals first
    | exact fitsI_u8 _
    | exact fitsI_lit_u8 _ rfl _
    | exact inR_mod _
    | (refine ⟨_, _, rfl, rfl, ?_⟩; simp only [Frz]; refine congrArg (D.i .i64) ?_
       first
         | exact len_fin x 56 (by omega) (by omega) _ (by omega)
         | exact len_fin x 48 (by omega) (by omega) _ (by omega)
         | exact len_fin x 40 (by omega) (by omega) _ (by omega)
         | exact len_fin x 32 (by omega) (by omega) _ (by omega)
         | exact len_fin x 24 (by omega) (by omega) _ (by omega)
         | exact len_fin x 16 (by omega) (by omega) _ (by omega)
         | exact len_fin x 8 (by omega) (by omega) _ (by omega)
         | exact (len_fin0 x (by omega)).trans (Int.zero_add _).symm
         | exact len_fin0 x (by omega))
end Go.Proofs.YtbpemnmpcljbpaaGreat
