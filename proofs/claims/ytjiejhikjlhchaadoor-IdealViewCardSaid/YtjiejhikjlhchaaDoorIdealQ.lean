/- Written by a program (pre.py) from the source of the same name. -/
/- How a circle ought to be: the ideal view may be: the plain law. -/
import Derived.Test.YtjiejhikjlhchaaDoorIdealN
set_option linter.unusedSimpArgs false
set_option linter.unusedVariables false
set_option linter.unnecessarySimpa false
namespace Go.Proofs.YtjiejhikjlhchaaDoor
open Go.Gar
set_option maxRecDepth 4000

theorem ideal_right {l b : List Int} {x : Int} (hR : rightM l = true) (hn : 2 ≤ l.length) (hx : x ∈ l) (hb : rightB b = true) : rightV (viewI l x b) = true := by
  obtain ⟨r1, r2, r3, r4⟩ := rightM_t hR
  have hxp := r4 x hx
  have hpl : ∀ y, y ∈ l → y ≠ x → otT x y = true := fun y hy hne => by
    unfold otT
    rw [r4 y hy, Bool.true_and, decide_eq_true hne, Bool.or_true]
  have hp : otT x (predT l x) = true := by
    have hlen := rot_len r3 hx
    have hr0 : rotT x l ≠ [] := List.length_pos_iff.1 (by omega)
    have hm : predT l x ∈ rotT x l := by
      unfold predT
      rw [oth_yes hR hx]
      show (rotT x l).getLastD (-1) ∈ _
      rw [List.getLastD_eq_getLast?, List.getLast?_eq_some_getLast hr0]
      exact List.getLast_mem hr0
    obtain ⟨m1, m2⟩ := rot_mem.1 hm
    exact hpl _ m1 m2
  have hne : l ≠ [] := List.length_pos_iff.1 r1
  have hf : ∀ i, otT x (fingT l x i) = true := fun i => by
    unfold fingT
    split
    · simp [otT]
    · rename_i h
      exact hpl _ (own_ok hne r4).1 h
  have h1 := (list_ok hR hx).1
  unfold rightV viewI
  simp only [hxp, hb, h1, hp, Bool.true_and]
  simp only [fins, List.all_cons, List.all_nil, hf, Bool.true_and]
theorem is_ideal {l : List Int} {x : Int} {b : List Int} (hV : viewR l x b = (viewI l x b, 0)) (w : View) (h1 : w.id = x) (h2 : w.base = b) : isT l w = sameV w (viewI l x b) := by
  rw [is_eq, h1, h2, hV]; rfl
theorem tmod18 (a : Int) : (a.tmod 18 + 16 + 2).tmod 18 = ((a % 18).toNat : Nat) ∧ (a % 18).toNat < 18 ∧ -18 ≤ a.tmod 18 ∧ a.tmod 18 < 18 := by
  obtain ⟨h1, h2, h3, h4⟩ := tmod_ix a (n := 18) (by decide)
  refine ⟨?_, h2, h3, h4⟩
  rw [show a.tmod 18 + 16 + 2 = a.tmod 18 + 18 by omega]
  exact h1
end Go.Proofs.YtjiejhikjlhchaaDoor
