/- Written by a program (pre.py) from the source of the same name. -/
/- Views: who is known, in a view that may be. -/
import Derived.Test.YtflikcmbbljgeaaViewH
set_option linter.unusedSimpArgs false
set_option linter.unusedVariables false
set_option linter.unnecessarySimpa false
namespace Go.Proofs.Ytflikcmbbljgeaa
open Go.Gar Go.Shelf Go.Sort
set_option maxRecDepth 4000

theorem addN_mem (id x : Int) : ∀ (l o : List Int), x ∈ l.foldl (addN id) o ↔ x ∈ o ∨ (x ∈ l ∧ x ≠ id)
  | [], o => by simp
  | a :: l, o => by
    rw [List.foldl_cons, addN_mem id x l]
    unfold addN
    by_cases h : a = id
    · simp only [h, ne_eq, not_true_eq_false, if_false, List.mem_cons]
      constructor
      · rintro (h1 | ⟨h1, h2⟩)
        · exact .inl h1
        · exact .inr ⟨.inr h1, h2⟩
      · rintro (h1 | ⟨h1 | h1, h2⟩)
        · exact .inl h1
        · exact absurd h1 h2
        · exact .inr ⟨h1, h2⟩
    · simp only [ne_eq, h, not_false_eq_true, if_true, List.mem_append, List.mem_cons, List.not_mem_nil, or_false]
      constructor
      · rintro ((h1 | h1) | ⟨h1, h2⟩)
        · exact .inl h1
        · exact .inr ⟨.inl h1, fun e => h (h1 ▸ e)⟩
        · exact .inr ⟨.inr h1, h2⟩
      · rintro (h1 | ⟨h1 | h1, h2⟩)
        · exact .inl (.inl h1)
        · exact .inl (.inr h1)
        · exact .inr ⟨h1, h2⟩
theorem addT_mem (id x : Int) : ∀ (l o : List Int), x ∈ l.foldl (addT id) o ↔ x ∈ o ∨ (x ∈ l ∧ x ≠ -1 ∧ x ≠ id)
  | [], o => by simp
  | a :: l, o => by
    rw [List.foldl_cons, addT_mem id x l]
    unfold addT
    by_cases h : a ≠ -1 ∧ a ≠ id
    · rw [if_pos h]
      simp only [List.mem_append, List.mem_cons, List.not_mem_nil, or_false]
      constructor
      · rintro ((h1 | h1) | ⟨h1, h2⟩)
        · exact .inl h1
        · exact .inr ⟨.inl h1, h1 ▸ h⟩
        · exact .inr ⟨.inr h1, h2⟩
      · rintro (h1 | ⟨h1 | h1, h2⟩)
        · exact .inl (.inl h1)
        · exact .inl (.inr h1)
        · exact .inr ⟨h1, h2⟩
    · rw [if_neg h]
      simp only [List.mem_cons]
      constructor
      · rintro (h1 | ⟨h1, h2⟩)
        · exact .inl h1
        · exact .inr ⟨.inr h1, h2⟩
      · rintro (h1 | ⟨h1 | h1, h2⟩)
        · exact .inl h1
        · exact absurd (h1 ▸ h2) h
        · exact .inr ⟨h1, h2⟩
/-- All that stand in one of the four. -/
def allV (v : View) : List Int := v.base ++ v.list ++ [v.pred] ++ fins v.f
theorem rT_pl : ∀ (l : List Int) (x f : Int), rT x f l = true → ∀ y ∈ l, isPl y = true
  | [], x, f, _, y, hy => by cases hy
  | a :: r, x, f, h, y, hy => by
    simp only [rT, Bool.and_eq_true] at h
    rcases List.mem_cons.mp hy with rfl | hy
    · exact h.1.1
    · exact rT_pl r x _ h.2 y hy
theorem othT_mem {v : View} (hv : rightV v = true) (x : Int) : x ∈ othT v.id v.base v.list v.pred v.f ↔ x ∈ allV v ∧ x ≠ -1 ∧ x ≠ v.id := by
  obtain ⟨h1, h2, h3, h4, h5⟩ := rightV_t hv
  simp only [rightL, Bool.and_eq_true] at h3
  have hb : ∀ y ∈ v.base, y ≠ -1 := fun y hy => by have := isPl_t (rightB_pl h2 y hy); omega
  have hl : ∀ y ∈ v.list, y ≠ -1 := fun y hy => by have := isPl_t (rT_pl _ _ _ h3.2 y hy); omega
  unfold othT rowsT allV
  rw [addT_mem, addN_mem, addN_mem]
  simp only [List.mem_append, List.mem_cons, List.not_mem_nil, or_false, false_or]
  constructor
  · rintro ((⟨h, h'⟩ | ⟨h, h'⟩) | ⟨h | h, h', h''⟩)
    · exact ⟨.inl (.inl (.inl h)), hb x h, h'⟩
    · exact ⟨.inl (.inl (.inr h)), hl x h, h'⟩
    · exact ⟨.inl (.inr h), h', h''⟩
    · exact ⟨.inr h, h', h''⟩
  · rintro ⟨((h | h) | h) | h, h', h''⟩
    · exact .inl (.inl ⟨h, h''⟩)
    · exact .inl (.inr ⟨h, h''⟩)
    · exact .inr ⟨.inl h, h', h''⟩
    · exact .inr ⟨.inr h, h', h''⟩
theorem otT_pl {id x : Int} (h : otT id x = true) (hx : x ≠ -1) : isPl x = true := by
  simp only [otT, Bool.or_eq_true, decide_eq_true_eq, Bool.and_eq_true] at h
  exact (h.resolve_left hx).1
theorem othT_pl {v : View} (hv : rightV v = true) : ∀ x ∈ othT v.id v.base v.list v.pred v.f, isPl x = true := by
  intro x hx
  obtain ⟨h, h', h''⟩ := (othT_mem hv x).1 hx
  obtain ⟨h1, h2, h3, h4, h5⟩ := rightV_t hv
  simp only [rightL, Bool.and_eq_true] at h3
  simp only [allV, List.mem_append, List.mem_cons, List.not_mem_nil, or_false] at h
  rcases h with ((h | h) | h) | h
  · exact rightB_pl h2 x h
  · exact rT_pl _ _ _ h3.2 x h
  · exact otT_pl (h ▸ h4) h'
  · exact otT_pl (List.all_eq_true.1 h5 x h) h'
/-- Who is known in a view that may be: rising by how far; all that stand somewhere, but none and oneself. -/
theorem kwT_spec {v : View} (hv : rightV v = true) : upT v.id (kwT v) ∧ ∀ x, x ∈ kwT v ↔ x ∈ allV v ∧ x ≠ -1 ∧ x ≠ v.id := by
  have h := kw_spec (id := v.id) (othT_pl hv)
  unfold kwT
  rw [hv]
  exact ⟨h.1, fun x => (h.2 x).trans (othT_mem hv x)⟩
theorem kwT_no {v : View} (hv : rightV v = false) : kwT v = [] := by unfold kwT; rw [hv]; rfl
end Go.Proofs.Ytflikcmbbljgeaa
