/- Written by a program (pre.py) from the source of the same name. -/
/- How far places are from one: rows that rise so; who stands between; what a list skips. Plain. -/
import Derived.Test.YtjiejhikjlhchaaDoorView3
set_option linter.unusedSimpArgs false
set_option linter.unusedVariables false
set_option linter.unnecessarySimpa false
namespace Go.Proofs.YtjiejhikjlhchaaDoor
open Go.Gar
set_option maxRecDepth 4000

theorem far_inj {id a b : Int} (ha : isPl a = true) (hb : isPl b = true) (h : farT id a = farT id b) : a = b := by
  have h1 := isPl_t ha
  have h2 := isPl_t hb
  unfold farT at h
  omega
/-- Rising by how far they are. -/
abbrev upT (id : Int) (l : List Int) : Prop := l.Pairwise fun a b => farT id a < farT id b
theorem upT_unique {id : Int} {a b : List Int} (ha : upT id a) (hb : upT id b) (h : ∀ x, x ∈ a ↔ x ∈ b) : a = b := by
  have nd : ∀ {l : List Int}, upT id l → l.Nodup := fun h => h.imp fun h e => by subst e; omega
  refine List.Perm.eq_of_pairwise (le := fun x y => farT id x < farT id y) (fun x y _ _ h1 h2 => ?_) ha hb ((List.perm_ext_iff_of_nodup (nd ha) (nd hb)).2 h)
  omega
def btwT (a x b : Int) : Bool := if plT a = plT b then decide (plT x ≠ plT a) else decide (farT a x > 0 ∧ farT a x < farT a b)
/-- Does a list skip one of the base? -/
def skT : Int → List Int → List Int → Bool
  | _, [], _ => false
  | a, p :: r, base => base.any (fun b => btwT a b p) || skT p r base
theorem any_at {g : Int → Bool} {l : List Int} {k : Nat} {b : Int} (hb : l[k]? = some b) (h : g b = true) : l.any g = true := List.any_eq_true.2 ⟨b, List.mem_of_getElem? hb, h⟩
theorem take_none {g : Int → Bool} {l : List Int} {k : Nat} {b : Int} (hb : l[k]? = some b) (h : g b = false) (hp : ∀ x ∈ l.take k, g x = false) : ∀ x ∈ l.take (k + 1), g x = false := by
  intro x hx
  rw [take_succ_of hb, List.mem_append] at hx
  rcases hx with hx | hx
  · exact hp x hx
  · rw [List.mem_singleton.1 hx]; exact h
theorem rT_filter {x : Int} (g : Int → Bool) : ∀ (l : List Int) (f e : Int), rT x f l = true → e ≤ f → rT x e (l.filter g) = true
  | [], f, e, _, _ => rfl
  | a :: r, f, e, h, he => by
    simp only [rT, Bool.and_eq_true, decide_eq_true_eq] at h
    cases hg : g a with
    | true =>
      rw [List.filter_cons_of_pos hg]
      simp only [rT, Bool.and_eq_true, decide_eq_true_eq]
      exact ⟨⟨h.1.1, by omega⟩, rT_filter g r _ _ h.2 (Int.le_refl _)⟩
    | false =>
      rw [List.filter_cons_of_neg (by rw [hg]; simp)]
      exact rT_filter g r _ _ h.2 (by omega)
theorem rT_far {x : Int} : ∀ (l : List Int) (f : Int), rT x f l = true → ∀ y ∈ l, farT x y > f
  | [], f, _, y, hy => by cases hy
  | a :: r, f, h, y, hy => by
    simp only [rT, Bool.and_eq_true, decide_eq_true_eq] at h
    rcases List.mem_cons.1 hy with rfl | hy
    · exact h.1.2
    · have := rT_far r _ h.2 y hy; omega
/-- A list that rises skips one of the base just if one of it stands ahead of one of the list, and isn't in it. -/
theorem sk_iff {x : Int} {base : List Int} (hb : ∀ b ∈ base, isPl b = true) : ∀ (l : List Int) (a : Int), rT x (farT x a) l = true →
    (skT a l base = true ↔ ∃ b ∈ base, farT x a < farT x b ∧ (∃ p ∈ l, farT x b < farT x p) ∧ b ∉ l)
  | [], a, _ => by simp [skT]
  | p :: r, a, h => by
    simp only [rT, Bool.and_eq_true, decide_eq_true_eq] at h
    obtain ⟨⟨hp, hf⟩, hr⟩ := h
    have hpl := isPl_t hp
    have hfar := rT_far r _ hr
    have hbt : ∀ b, btwT a b p = true ↔ farT x a < farT x b ∧ farT x b < farT x p := by
      intro b
      have hne : plT a ≠ plT p := by unfold plT; unfold farT at hf; omega
      unfold btwT
      rw [if_neg hne, decide_eq_true_eq]
      unfold farT at *
      omega
    simp only [skT, Bool.or_eq_true, List.any_eq_true, hbt]
    rw [sk_iff hb r p hr]
    constructor
    · rintro (⟨b, h1, h2, h3⟩ | ⟨b, h1, h2, ⟨q, h3, h4⟩, h5⟩)
      · refine ⟨b, h1, h2, ⟨p, List.mem_cons_self .., h3⟩, fun hm => ?_⟩
        rcases List.mem_cons.1 hm with rfl | hm
        · omega
        · have := hfar b hm; omega
      · refine ⟨b, h1, by omega, ⟨q, List.mem_cons_of_mem _ h3, h4⟩, fun hm => ?_⟩
        rcases List.mem_cons.1 hm with rfl | hm
        · omega
        · exact h5 hm
    · rintro ⟨b, h1, h2, ⟨q, h3, h4⟩, h5⟩
      by_cases e : farT x b < farT x p
      · exact .inl ⟨b, h1, h2, e⟩
      · right
        have hbp := isPl_t (hb b h1)
        have hne : farT x b ≠ farT x p := fun e2 => h5 (by
          have : b = p := by unfold farT at e2; omega
          rw [this]; exact List.mem_cons_self ..)
        refine ⟨b, h1, by omega, ⟨q, ?_, h4⟩, fun hm => h5 (List.mem_cons_of_mem _ hm)⟩
        rcases List.mem_cons.1 h3 with rfl | h3
        · omega
        · exact h3
end Go.Proofs.YtjiejhikjlhchaaDoor
