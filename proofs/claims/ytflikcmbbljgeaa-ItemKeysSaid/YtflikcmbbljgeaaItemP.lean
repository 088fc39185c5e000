/- Written by a program (pre.py) from the source of the same name. -/
/- Keys in order, each once: the plain law. -/
import Derived.Test.YtflikcmbbljgeaaItemS
import Derived.Sort.KeysCollected
import Derived.Sort.Walk0
set_option linter.unusedSimpArgs false
set_option linter.unusedVariables false
set_option linter.unnecessarySimpa false
namespace Go.Proofs.Ytflikcmbbljgeaa
open Go.Gar Go.Shelf Go.Sort
set_option maxRecDepth 4000

theorem str_lt {x y : List UInt8} (h : x ≤ y) (hne : x ≠ y) : x < y := by
  rcases List.le_iff_lt_or_eq.1 h with h | h
  · exact h
  · exact absurd h hne
theorem str_ne {x y : List UInt8} (h : x < y) : x ≠ y := fun e => List.lt_irrefl _ (e ▸ h)

theorem compact_up {d : Array (List UInt8)} (hs : ∀ i j, i ≤ j → j < d.size → d[i]! ≤ d[j]!) : ∀ m, m ≤ d.size → (Lib.compactUpTo d m).Pairwise (· < ·) ∧ ∀ x, x ∈ Lib.compactUpTo d m ↔ ∃ j, j < m ∧ d[j]! = x
  | 0, _ => by simp [Lib.compactUpTo]
  | m + 1, hm => by
    obtain ⟨h1, h2⟩ := compact_up hs m (by omega)
    rw [Lib.compactUpTo_succ]
    by_cases hk : Lib.keeps d m = true
    · rw [if_pos hk]
      have hk' : m = 0 ∨ d[m]! ≠ d[m - 1]! := by simpa [Lib.keeps] using hk
      refine ⟨List.pairwise_append.2 ⟨h1, by simp, fun x hx y hy => ?_⟩, fun x => ?_⟩
      · simp only [List.mem_cons, List.mem_nil_iff, or_false] at hy
        subst hy
        obtain ⟨j, hj, rfl⟩ := (h2 x).1 hx
        have hne : d[m]! ≠ d[m - 1]! := by
          rcases hk' with h | h
          · omega
          · exact h
        have hlt : d[m - 1]! < d[m]! := str_lt (hs (m - 1) m (by omega) (by omega)) (Ne.symm hne)
        exact List.lt_of_le_of_lt (hs j (m - 1) (by omega) (by omega)) hlt
      · simp only [List.mem_append, h2, List.mem_cons, List.mem_nil_iff, or_false]
        constructor
        · rintro (⟨j, hj, rfl⟩ | rfl)
          · exact ⟨j, by omega, rfl⟩
          · exact ⟨m, by omega, rfl⟩
        · rintro ⟨j, hj, rfl⟩
          by_cases e : j = m
          · subst e; exact .inr rfl
          · exact .inl ⟨j, by omega, rfl⟩
    · rw [if_neg hk, List.append_nil]
      have hk' : ¬ (m = 0 ∨ d[m]! ≠ d[m - 1]!) := by simpa [Lib.keeps] using hk
      have hm0 : m ≠ 0 := fun e => hk' (.inl e)
      have heq : d[m]! = d[m - 1]! := Classical.not_not.1 fun h => hk' (.inr h)
      refine ⟨h1, fun x => ?_⟩
      rw [h2]
      constructor
      · rintro ⟨j, hj, rfl⟩; exact ⟨j, by omega, rfl⟩
      · rintro ⟨j, hj, rfl⟩
        by_cases e : j = m
        · subst e; exact ⟨j - 1, by omega, heq.symm⟩
        · exact ⟨j, by omega, rfl⟩

theorem sortB_sorted (zs : List (List UInt8)) : (sortB zs).Pairwise (· ≤ ·) := by
  have h := List.pairwise_mergeSort (le := leB) (fun a b c h1 h2 => by simp only [leB, decide_eq_true_eq] at *; exact List.le_trans h1 h2) (fun a b => by simp only [leB, Bool.or_eq_true, decide_eq_true_eq]; exact List.le_total a b) zs
  exact h.imp fun h => by simpa [leB] using h
/-- Sorted, each once. -/
def keysB (zs : List (List UInt8)) : List (List UInt8) := Lib.compact (sortB zs)
theorem keysB_spec (zs : List (List UInt8)) : (keysB zs).Pairwise (· < ·) ∧ ∀ x, x ∈ keysB zs ↔ x ∈ zs := by
  have hs := sortB_sorted zs
  have hg : ∀ i, i < (sortB zs).length → (sortB zs).toArray[i]! = (sortB zs).getD i [] := fun i hi => by
    rw [getElem!_pos _ i (by simpa using hi), List.getD_eq_getElem?_getD, List.getElem?_eq_getElem hi]; simp
  have hm : ∀ i j, i ≤ j → j < (sortB zs).toArray.size → (sortB zs).toArray[i]! ≤ (sortB zs).toArray[j]! := by
    intro i j hij hj
    have hj' : j < (sortB zs).length := by simpa using hj
    rw [hg i (by omega), hg j hj']
    by_cases e : i = j
    · subst e; exact List.le_refl _
    · have := List.pairwise_iff_getElem.1 hs i j (by omega) hj' (by omega)
      rw [List.getD_eq_getElem?_getD, List.getD_eq_getElem?_getD, List.getElem?_eq_getElem hj', List.getElem?_eq_getElem (show i < (sortB zs).length by omega)]
      exact this
  obtain ⟨h1, h2⟩ := compact_up hm (sortB zs).length (by simp)
  refine ⟨h1, fun x => ?_⟩
  refine (h2 x).trans ?_
  rw [← (List.mem_mergeSort (le := fun x y => decide (x ≤ y)) (l := zs) (a := x))]
  constructor
  · rintro ⟨j, hj, rfl⟩
    rw [hg j hj, List.getD_eq_getElem?_getD, List.getElem?_eq_getElem hj]
    exact List.getElem_mem hj
  · intro hx
    obtain ⟨j, hj, e⟩ := List.getElem_of_mem (show x ∈ sortB zs from hx)
    exact ⟨j, hj, by rw [hg j hj, List.getD_eq_getElem?_getD, List.getElem?_eq_getElem hj]; exact e⟩
theorem lt_nodup {a : List (List UInt8)} (h : a.Pairwise (· < ·)) : a.Nodup := h.imp fun h => str_ne h
/-- Two rows that rise and have the same are the same. -/
theorem lt_unique {a b : List (List UInt8)} (ha : a.Pairwise (· < ·)) (hb : b.Pairwise (· < ·)) (h : ∀ x, x ∈ a ↔ x ∈ b) : a = b := by
  refine List.Perm.eq_of_pairwise (le := fun x y => x < y) (fun x y _ _ h1 h2 => ?_) ha hb ((List.perm_ext_iff_of_nodup (lt_nodup ha) (lt_nodup hb)).2 h)
  exact absurd (List.lt_trans h1 h2) (List.lt_irrefl _)
end Go.Proofs.Ytflikcmbbljgeaa
