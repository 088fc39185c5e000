/- Written by a program (pre.py) from the source of the same name. -/
/- Views: who is known: the plain law. -/
import Derived.Test.YtjiejhikjlhchaaDoorViewG
import Derived.Test.YtjiejhikjlhchaaDoorFar
set_option linter.unusedSimpArgs false
set_option linter.unusedVariables false
set_option linter.unnecessarySimpa false
namespace Go.Proofs.YtjiejhikjlhchaaDoor
open Go.Gar Go.Shelf Go.Sort
set_option maxRecDepth 4000

theorem compact_far {id : Int} {d : Array Int} (hp : ∀ i, i < d.size → isPl d[i]! = true) (hs : ∀ i j, i ≤ j → j < d.size → farT id d[i]! ≤ farT id d[j]!) : ∀ m, m ≤ d.size → upT id (Lib.compactUpTo d m) ∧ ∀ x, x ∈ Lib.compactUpTo d m ↔ ∃ j, j < m ∧ d[j]! = x
  | 0, _ => by simp [Lib.compactUpTo]
  | m + 1, hm => by
    obtain ⟨h1, h2⟩ := compact_far hp hs m (by omega)
    rw [Lib.compactUpTo_succ]
    by_cases hk : Lib.keeps d m = true
    · rw [if_pos hk]
      have hk' : m = 0 ∨ d[m]! ≠ d[m - 1]! := by simpa [Lib.keeps] using hk
      refine ⟨List.pairwise_append.2 ⟨h1, by simp, fun x hx y hy => ?_⟩, fun x => ?_⟩
      · simp only [List.mem_cons, List.mem_nil_iff, or_false] at hy
        subst hy
        obtain ⟨j, hj, rfl⟩ := (h2 x).1 hx
        have hne : d[m]! ≠ d[m - 1]! := by
          rcases hk' with h | h
          · omega
          · exact h
        have h3 := hs (m - 1) m (by omega) (by omega)
        have h4 := hs j (m - 1) (by omega) (by omega)
        have h5 : farT id d[m]! ≠ farT id d[m - 1]! := fun e => hne (far_inj (hp m (by omega)) (hp (m - 1) (by omega)) e)
        show farT id d[j]! < farT id d[m]!
        omega
      · simp only [List.mem_append, h2, List.mem_cons, List.mem_nil_iff, or_false]
        constructor
        · rintro (⟨j, hj, rfl⟩ | rfl)
          · exact ⟨j, by omega, rfl⟩
          · exact ⟨m, by omega, rfl⟩
        · rintro ⟨j, hj, rfl⟩
          by_cases e : j = m
          · subst e; exact .inr rfl
          · exact .inl ⟨j, by omega, rfl⟩
    · rw [if_neg hk, List.append_nil]
      have hk' : ¬ (m = 0 ∨ d[m]! ≠ d[m - 1]!) := by simpa [Lib.keeps] using hk
      have hm0 : m ≠ 0 := fun e => hk' (.inl e)
      have heq : d[m]! = d[m - 1]! := Classical.not_not.1 fun h => hk' (.inr h)
      refine ⟨h1, fun x => ?_⟩
      rw [h2]
      constructor
      · rintro ⟨j, hj, rfl⟩; exact ⟨j, by omega, rfl⟩
      · rintro ⟨j, hj, rfl⟩
        by_cases e : j = m
        · subst e; exact ⟨j - 1, by omega, heq.symm⟩
        · exact ⟨j, by omega, rfl⟩
theorem psT_mem (id : Int) (zs : List Int) (x : Int) : x ∈ psT id zs ↔ x ∈ zs := by
  have h := (psA_ok id zs).1
  have h3 := h.2.2
  have e1 : (psA id zs).extract 0 zs.toArray.size = psA id zs := by rw [← h.1]; simp
  rw [e1] at h3
  simp at h3
  exact h3.mem_iff
theorem kw_spec {id : Int} {zs : List Int} (hz : ∀ x ∈ zs, isPl x = true) : upT id (Lib.compact (psT id zs)) ∧ ∀ x, x ∈ Lib.compact (psT id zs) ↔ x ∈ zs := by
  have h := psA_ok id zs
  have hsz : (psT id zs).toArray.size = zs.toArray.size := by simpa using psT_len id zs
  have hA : (psT id zs).toArray = psA id zs := by unfold psT; rfl
  have hg : ∀ i, i < (psT id zs).toArray.size → (psT id zs).toArray[i]! ∈ psT id zs := fun i hi => by
    rw [getElem!_pos _ i hi]; simp
  have hp : ∀ i, i < (psT id zs).toArray.size → isPl (psT id zs).toArray[i]! = true := fun i hi => hz _ ((psT_mem id zs _).1 (hg i hi))
  have hm : ∀ i j, i ≤ j → j < (psT id zs).toArray.size → farT id (psT id zs).toArray[i]! ≤ farT id (psT id zs).toArray[j]! := by
    intro i j hij hj
    by_cases e : i = j
    · subst e; exact Int.le_refl _
    · have := h.2 i j (Nat.zero_le _) (by omega) (by omega)
      rw [cfI_lt] at this
      rw [hA]
      simpa using this
  obtain ⟨h1, h2⟩ := compact_far hp hm (psT id zs).toArray.size (Nat.le_refl _)
  refine ⟨h1, fun x => (h2 x).trans ?_⟩
  rw [← psT_mem id zs]
  constructor
  · rintro ⟨j, hj, rfl⟩
    exact hg j hj
  · intro hx
    obtain ⟨j, hj, e⟩ := List.getElem_of_mem hx
    exact ⟨j, by simpa using hj, by rw [getElem!_pos _ j (by simpa using hj)]; simpa using e⟩
end Go.Proofs.YtjiejhikjlhchaaDoor
