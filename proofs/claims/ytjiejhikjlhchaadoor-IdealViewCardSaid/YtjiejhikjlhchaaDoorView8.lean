/- Written by a program (pre.py) from the source of the same name. -/
/- Views: deaths (written by genView8.py). -/
import Derived.Test.YtjiejhikjlhchaaDoorView7
set_option linter.unusedSimpArgs false
set_option linter.unusedVariables false
set_option linter.unnecessarySimpa false
namespace Go.Proofs.YtjiejhikjlhchaaDoor
open Go.Gar
set_option maxRecDepth 4000

def deadT (v : View) (d : Int) : View := if rightV v && !(decide (d ∈ v.base)) then ⟨v.id, v.base, dropT v.list d, if v.pred = d then -1 else v.pred, fun i => if v.f i = d then -1 else v.f i⟩ else v
/-- k fingers are done. -/
def DInv (f : Nat → Int) (d : Int) (x : Nat × (Nat → Int)) : Prop := x.1 ≤ 16 ∧ ∀ i, x.2 i = if i < x.1 then (if f i = d then -1 else f i) else f i
theorem DInv0 {f : Nat → Int} {d : Int} : DInv f d (0, f) := ⟨Nat.zero_le _, fun i => rfl⟩
theorem DInv.at {f : Nat → Int} {d : Int} {k : Nat} {h : Nat → Int} (hi : DInv f d (k, h)) : h k = f k := by
  have := hi.2 k
  simpa using this
theorem DInv.yes {f : Nat → Int} {d : Int} {k : Nat} {h : Nat → Int} (hi : DInv f d (k, h)) (hk : k < 16) (e : f k = d) : DInv f d (k + 1, fun i => if i = k then -1 else h i) := by
  refine ⟨hk, fun i => ?_⟩
  have := hi.2 i
  dsimp only at this ⊢
  by_cases e1 : i = k
  · subst e1; simp [e]
  · rw [if_neg e1, this]
    by_cases e2 : i < k
    · rw [if_pos e2, if_pos (show i < k + 1 by omega)]
    · rw [if_neg e2, if_neg (show ¬ i < k + 1 by omega)]
theorem DInv.no {f : Nat → Int} {d : Int} {k : Nat} {h : Nat → Int} (hi : DInv f d (k, h)) (hk : k < 16) (e : f k ≠ d) : DInv f d (k + 1, h) := by
  refine ⟨hk, fun i => ?_⟩
  have := hi.2 i
  dsimp only at this ⊢
  rw [this]
  by_cases e1 : i = k
  · subst e1; simp [e]
  · by_cases e2 : i < k
    · rw [if_pos e2, if_pos (show i < k + 1 by omega)]
    · rw [if_neg e2, if_neg (show ¬ i < k + 1 by omega)]
theorem DInv.end {f : Nat → Int} {d : Int} {h : Nat → Int} (hi : DInv f d (16, h)) (i : Nat) (hk : i < 16) : h i = if f i = d then -1 else f i := by
  have := hi.2 i
  rwa [if_pos (show i < 16 from hk)] at this
theorem lt16 {k : Nat} (h : k < 16) : k = 0 ∨ k = 1 ∨ k = 2 ∨ k = 3 ∨ k = 4 ∨ k = 5 ∨ k = 6 ∨ k = 7 ∨ k = 8 ∨ k = 9 ∨ k = 10 ∨ k = 11 ∨ k = 12 ∨ k = 13 ∨ k = 14 ∨ k = 15 := by omega

end Go.Proofs.YtjiejhikjlhchaaDoor
