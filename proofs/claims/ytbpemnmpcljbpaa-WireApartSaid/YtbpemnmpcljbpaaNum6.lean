/- Written by a program (pre.py) from the source of the same name. -/
/- Numbers: the document's answers. -/
import Derived.Test.YtbpemnmpcljbpaaNum5
set_option linter.unusedSimpArgs false
set_option linter.unusedVariables false
set_option linter.unnecessarySimpa false
namespace Go.Proofs.Ytbpemnmpcljbpaa
open Go.Gar
set_option maxRecDepth 4000

/-- The last k digits. -/
def lowd (n k : Nat) : List UInt8 := (List.range k).map fun j => dig n (k - 1 - j)
theorem lowd_succ (n k : Nat) : lowd n (k + 1) = dig n k :: lowd n k := by
  simp only [lowd, List.range_succ_eq_map, List.map_cons, List.map_map]
  refine congr (congrArg _ (by simp)) ?_
  apply List.map_congr_left
  intro j _
  simp only [Function.comp]
  congr 1; omega
theorem fitsI_nat (a : Nat) (h : a < 4611686018427387904) : fitsI .i64 (a : Int) = true := by
  simp only [fitsI, Bool.and_eq_true, decide_eq_true_eq]; constructor <;> omega
theorem size_pos {n k : Nat} : 0 < n / 256 ^ k ↔ k < size n := by
  have hp : 0 < 256 ^ k := Nat.pow_pos (by decide)
  rw [Nat.div_pos_iff]
  have e : 256 ^ k = 2 ^ (8 * k) := by rw [Nat.pow_mul]
  obtain ⟨h1, h2⟩ := (len64_iff (n := n) (k := len64 n)).1 rfl
  unfold size
  constructor
  · rintro ⟨_, h⟩
    rcases Nat.lt_or_ge (8 * k) (len64 n) with h3 | h3
    · omega
    · have : 2 ^ len64 n ≤ 2 ^ (8 * k) := Nat.pow_le_pow_right (by decide) h3
      omega
  · intro h
    refine ⟨hp, ?_⟩
    rcases h2 with h2 | h2
    · omega
    · have : 2 ^ (8 * k) ≤ 2 ^ (len64 n - 1) := Nat.pow_le_pow_right (by decide) (by omega)
      omega

end Go.Proofs.Ytbpemnmpcljbpaa
