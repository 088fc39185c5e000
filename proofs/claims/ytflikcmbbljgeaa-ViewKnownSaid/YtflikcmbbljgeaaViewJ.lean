/- Written by a program (pre.py) from the source of the same name. -/
/- Views: the least far one behind another: the plain law. -/
import Derived.Test.YtflikcmbbljgeaaViewI
set_option linter.unusedSimpArgs false
set_option linter.unusedVariables false
set_option linter.unnecessarySimpa false
namespace Go.Proofs.Ytflikcmbbljgeaa
open Go.Gar
set_option maxRecDepth 4000

/-- One that stands behind at. -/
def candT (id at' a : Int) : Prop := 0 ≤ a ∧ farT id a > farT id at'
instance (id at' a : Int) : Decidable (candT id at' a) := by unfold candT; exact inferInstance
def selS (id at' next a : Int) : Int := if candT id at' a ∧ (next < 0 ∨ farT id a < farT id next) then a else next
theorem sel_spec (id at' : Int) : ∀ (l : List Int) (n : Int), (n < 0 → n = -1) → (0 ≤ n → candT id at' n) →
    (l.foldl (selS id at') n = -1 ∧ n = -1 ∧ ∀ a ∈ l, ¬ candT id at' a) ∨
    (candT id at' (l.foldl (selS id at') n) ∧ (l.foldl (selS id at') n = n ∨ l.foldl (selS id at') n ∈ l) ∧ (0 ≤ n → farT id (l.foldl (selS id at') n) ≤ farT id n) ∧ ∀ a ∈ l, candT id at' a → farT id (l.foldl (selS id at') n) ≤ farT id a)
  | [], n, h1, h2 => by
    by_cases h : n < 0
    · left; exact ⟨h1 h, h1 h, fun _ h => by cases h⟩
    · right; exact ⟨h2 (by omega), .inl rfl, fun _ => Int.le_refl _, fun _ h => by cases h⟩
  | a :: l, n, h1, h2 => by
    simp only [List.foldl_cons]
    by_cases hc : candT id at' a ∧ (n < 0 ∨ farT id a < farT id n)
    · have e : selS id at' n a = a := if_pos hc
      rw [e]
      have ha := hc.1.1
      rcases sel_spec id at' l a (fun h => by omega) (fun _ => hc.1) with ⟨-, h, -⟩ | ⟨g1, g2, g3, g4⟩
      · omega
      · right
        have g3 := g3 ha
        refine ⟨g1, .inr ?_, fun h => ?_, fun b hb hcb => ?_⟩
        · rcases g2 with g2 | g2
          · rw [g2]; exact List.mem_cons_self ..
          · exact List.mem_cons_of_mem _ g2
        · rcases hc.2 with h3 | h3 <;> omega
        · rcases List.mem_cons.1 hb with rfl | hb
          · exact g3
          · exact g4 b hb hcb
    · have e : selS id at' n a = n := if_neg hc
      rw [e]
      rcases sel_spec id at' l n h1 h2 with ⟨g1, g2, g3⟩ | ⟨g1, g2, g3, g4⟩
      · left
        refine ⟨g1, g2, fun b hb => ?_⟩
        rcases List.mem_cons.1 hb with rfl | hb
        · exact fun h => hc ⟨h, .inl (by omega)⟩
        · exact g3 b hb
      · right
        refine ⟨g1, g2.elim .inl fun h => .inr (List.mem_cons_of_mem _ h), g3, fun b hb hcb => ?_⟩
        rcases List.mem_cons.1 hb with rfl | hb
        · by_cases h : n < 0
          · exact absurd ⟨hcb, .inl h⟩ hc
          · have := g3 (by omega)
            have h5 : ¬ (farT id b < farT id n) := fun h6 => hc ⟨hcb, .inr h6⟩
            omega
        · exact g4 b hb hcb
def nextT (id at' : Int) (l : List Int) : Int := l.foldl (selS id at') (-1)
/-- Where the choice stands when k are told. -/
theorem next_at {id : Int} (hid : isPl id = true) {all K : List Int} (hu : upT id K) (hm : ∀ x, x ∈ K ↔ x ∈ all ∧ x ≠ -1 ∧ x ≠ id) (hp : ∀ x ∈ all, x = -1 ∨ isPl x = true) {k : Nat} (hk : k ≤ K.length) :
    (∀ x, K[k]? = some x → nextT id (ahead id K k) all = x) ∧ (K[k]? = none → nextT id (ahead id K k) all = -1) := by
  have hs := sel_spec id (ahead id K k) all (-1) (fun _ => rfl) (fun h => by omega)
  have hid' := isPl_t hid
  have hpl : ∀ x ∈ K, isPl x = true ∧ farT id x > 0 := fun x hx => by
    obtain ⟨h1, h2, h3⟩ := (hm x).1 hx
    have h4 := (hp x h1).resolve_left h2
    have h5 := isPl_t h4
    exact ⟨h4, by unfold farT; omega⟩
  have hself : farT id id = 0 := by unfold farT; omega
  have hmono : ∀ (i j : Nat) (hi : i < K.length) (hj : j < K.length), i < j → farT id K[i] < farT id K[j] := fun i j hi hj h => List.pairwise_iff_getElem.1 hu i j hi hj h
  have hat : ∀ j (hj : j < K.length), k ≤ j ↔ farT id K[j] > farT id (ahead id K k) := by
    intro j hj
    cases k with
    | zero => simp only [ahead, hself]; exact ⟨fun _ => (hpl _ (List.getElem_mem hj)).2, fun _ => Nat.zero_le _⟩
    | succ i =>
      have hi : i < K.length := by omega
      have e : ahead id K (i + 1) = K[i] := by simp [ahead, hi]
      rw [e]
      constructor
      · exact fun h => hmono i j hi hj (by omega)
      · intro h
        rcases Nat.lt_trichotomy i j with h2 | h2 | h2
        · omega
        · subst h2; omega
        · have := hmono j i hj hi h2; omega
  have hin : ∀ r, r ∈ all → candT id (ahead id K k) r → ∃ j, ∃ hj : j < K.length, K[j] = r := by
    intro r hr hc
    refine List.mem_iff_getElem.1 ((hm r).2 ⟨hr, by have := hc.1; omega, fun e => ?_⟩)
    have h1 := hc.2
    rw [e, hself] at h1
    have := (farT_lt id (ahead id K k)).1
    omega
  have hback : ∀ j (hj : j < K.length), k ≤ j → candT id (ahead id K k) K[j] := fun j hj h => by
    have := isPl_t (hpl _ (List.getElem_mem hj)).1
    exact ⟨by omega, (hat j hj).1 h⟩
  show (∀ x, K[k]? = some x → all.foldl _ _ = x) ∧ (K[k]? = none → all.foldl _ _ = -1)
  constructor
  · intro x hx
    obtain ⟨hk2, rfl⟩ := List.getElem?_eq_some_iff.1 hx
    have hall : K[k] ∈ all := ((hm _).1 (List.getElem_mem hk2)).1
    rcases hs with ⟨-, -, h⟩ | ⟨h1, h2, -, h4⟩
    · exact absurd (hback k hk2 (Nat.le_refl _)) (h _ hall)
    · have hr := h2.resolve_left (fun e => by rw [e] at h1; exact absurd h1.1 (by decide))
      obtain ⟨j, hj, e⟩ := hin _ hr h1
      have h5 := h4 _ hall (hback k hk2 (Nat.le_refl _))
      rw [← e] at h1 h5 ⊢
      have h6 := (hat j hj).2 h1.2
      rcases Nat.lt_or_ge k j with h7 | h7
      · have := hmono k j hk2 hj h7; omega
      · have : j = k := by omega
        subst this; rfl
  · intro hx
    have hk2 : K.length ≤ k := List.getElem?_eq_none_iff.1 hx
    rcases hs with ⟨h, -, -⟩ | ⟨h1, h2, -, -⟩
    · exact h
    · have hr := h2.resolve_left (fun e => by rw [e] at h1; exact absurd h1.1 (by decide))
      obtain ⟨j, hj, e⟩ := hin _ hr h1
      have h6 := (hat j hj).2 (e ▸ h1.2)
      omega
theorem up_len {id : Int} {all K : List Int} (hu : upT id K) (hm : ∀ x ∈ K, x ∈ all) : K.length ≤ all.length := by
  have nd : K.Nodup := List.Pairwise.imp (fun h e => by subst e; omega) hu
  exact nd.length_le_of_subset hm
theorem allV_pl {v : View} (hv : rightV v = true) : ∀ x ∈ allV v, x = -1 ∨ isPl x = true := by
  intro x h
  obtain ⟨h1, h2, h3, h4, h5⟩ := rightV_t hv
  simp only [rightL, Bool.and_eq_true] at h3
  simp only [allV, List.mem_append, List.mem_cons, List.not_mem_nil, or_false] at h
  by_cases h' : x = -1
  · exact .inl h'
  right
  rcases h with ((h | h) | h) | h
  · exact rightB_pl h2 x h
  · exact rT_pl _ _ _ h3.2 x h
  · exact otT_pl (h ▸ h4) h'
  · exact otT_pl (List.all_eq_true.1 h5 x h) h'
end Go.Proofs.Ytflikcmbbljgeaa
