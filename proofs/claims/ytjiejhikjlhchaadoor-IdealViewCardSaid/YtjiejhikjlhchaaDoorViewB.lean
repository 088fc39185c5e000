/- Written by a program (pre.py) from the source of the same name. -/
/- Views: anchors told by either; the first one; who stands between; what a list skips. -/
import Derived.Test.YtjiejhikjlhchaaDoorViewA
set_option linter.unusedSimpArgs false
set_option linter.unusedVariables false
set_option linter.unnecessarySimpa false
namespace Go.Proofs.YtjiejhikjlhchaaDoor
open Go.Gar
set_option maxRecDepth 4000

theorem an_ow_step {id best out b : Int} (hid : isPl id = true) (hb : isPl b = true) (h : (best = -1 ∧ out = id) ∨ (best = out ∧ best ≠ id ∧ isPl best = true)) :
    (anS id best b = -1 ∧ owS (id + 1) out b = id) ∨ (anS id best b = owS (id + 1) out b ∧ anS id best b ≠ id ∧ isPl (anS id best b) = true) := by
  have h1 := isPl_t hid
  have h2 := isPl_t hb
  rcases h with ⟨rfl, rfl⟩ | ⟨rfl, h3, h4⟩
  · by_cases e : b = out
    · subst e
      left
      refine ⟨by simp [anS], ?_⟩
      simp [owS]
    · right
      have ea : anS out (-1) b = b := by simp [anS, e]
      have eo : owS (out + 1) out b = b := by
        unfold owS
        rw [if_pos (show farT (out + 1) b < farT (out + 1) out by unfold farT; omega)]
        unfold plT; omega
      rw [ea, eo]
      exact ⟨rfl, e, hb⟩
  · have h5 := isPl_t h4
    right
    by_cases e : b = id
    · subst e
      have ea : anS b best b = best := by simp [anS]
      have eo : owS (b + 1) best b = best := by
        unfold owS
        rw [if_neg (show ¬ farT (b + 1) b < farT (b + 1) best by unfold farT; omega)]
      rw [ea, eo]
      exact ⟨rfl, h3, h4⟩
    · by_cases e2 : farT id b < farT id best
      · have ea : anS id best b = b := by simp [anS, e, e2]
        have eo : owS (id + 1) best b = b := by
          unfold owS
          rw [if_pos (show farT (id + 1) b < farT (id + 1) best by unfold farT at *; omega)]
          unfold plT; omega
        rw [ea, eo]
        exact ⟨rfl, e, hb⟩
      · have hn : ¬ best < 0 := by omega
        have ea : anS id best b = best := by simp [anS, e2, hn]
        have eo : owS (id + 1) best b = best := by
          unfold owS
          rw [if_neg (show ¬ farT (id + 1) b < farT (id + 1) best by unfold farT at *; omega)]
        rw [ea, eo]
        exact ⟨rfl, h3, h4⟩
theorem an_ow {id : Int} (hid : isPl id = true) : ∀ (l : List Int) (best out : Int), (∀ y ∈ l, isPl y = true) → ((best = -1 ∧ out = id) ∨ (best = out ∧ best ≠ id ∧ isPl best = true)) →
    ((l.foldl (anS id) best = -1 ∧ l.foldl (owS (id + 1)) out = id) ∨ (l.foldl (anS id) best = l.foldl (owS (id + 1)) out ∧ l.foldl (anS id) best ≠ id ∧ isPl (l.foldl (anS id) best) = true))
  | [], best, out, _, h => h
  | b :: l, best, out, hl, h => by
    simp only [List.foldl_cons]
    exact an_ow hid l _ _ (fun y hy => hl y (List.mem_cons_of_mem _ hy)) (an_ow_step hid (hl b (List.mem_cons_self ..)) h)
/-- The one told stays at a place once there is one. -/
theorem an_ne {id : Int} (hid : isPl id = true) : ∀ (l : List Int) (best : Int), (∀ y ∈ l, isPl y = true) → best ≠ -1 → l.foldl (anS id) best ≠ -1
  | [], best, _, h => h
  | b :: l, best, hl, h => by
    simp only [List.foldl_cons]
    refine an_ne hid l _ (fun y hy => hl y (List.mem_cons_of_mem _ hy)) ?_
    have := isPl_t (hl b (List.mem_cons_self ..))
    unfold anS
    split <;> omega
theorem an_some {id : Int} (hid : isPl id = true) : ∀ (l : List Int) (best : Int), (∀ y ∈ l, isPl y = true) → (∃ y ∈ l, y ≠ id) → l.foldl (anS id) best ≠ -1
  | [], best, _, ⟨y, hy, _⟩ => by cases hy
  | b :: l, best, hl, ⟨y, hy, hne⟩ => by
    simp only [List.foldl_cons]
    have hb := isPl_t (hl b (List.mem_cons_self ..))
    by_cases e : b = id
    · rcases List.mem_cons.mp hy with rfl | hy
      · exact absurd e hne
      · exact an_some hid l _ (fun y hy => hl y (List.mem_cons_of_mem _ hy)) ⟨y, hy, hne⟩
    · refine an_ne hid l _ (fun y hy => hl y (List.mem_cons_of_mem _ hy)) ?_
      unfold anS
      split
      · omega
      · intro h
        rename_i h1
        exact h1 ⟨e, .inl (by omega)⟩
theorem bT_all : ∀ (l : List Int) (f : Int), bT f l = true → ∀ y ∈ l, isPl y = true ∧ y > f
  | [], f, _, y, hy => by cases hy
  | a :: r, f, h, y, hy => by
    simp only [bT, Bool.and_eq_true, decide_eq_true_eq] at h
    rcases List.mem_cons.mp hy with rfl | hy
    · exact h.1
    · have := bT_all r a h.2 y hy
      exact ⟨this.1, by omega⟩
theorem rightB_pl {l : List Int} (h : rightB l = true) : ∀ y ∈ l, isPl y = true := by
  simp only [rightB, Bool.and_eq_true] at h
  exact fun y hy => (bT_all l _ h.2 y hy).1
theorem rightB_two {l : List Int} (h : rightB l = true) (id : Int) : ∃ y ∈ l, y ≠ id := by
  simp only [rightB, Bool.and_eq_true, decide_eq_true_eq] at h
  match l, h with
  | a :: b :: r, h =>
    have h1 := bT_all _ _ h.2
    have h2 : bT a (b :: r) = true := by
      have := h.2
      simp only [bT, Bool.and_eq_true] at this ⊢
      exact this.2
    have h3 := (bT_all _ _ h2 b (List.mem_cons_self ..)).2
    by_cases e : a = id
    · exact ⟨b, by simp, by omega⟩
    · exact ⟨a, by simp, e⟩
  | [a], h => exact absurd h.1.1 (show ¬ 2 ≤ 1 by decide)
  | [], h => exact absurd h.1.1 (by decide)
theorem anch_own {id : Int} {l : List Int} (hid : isPl id = true) (h : rightB l = true) : anchT id l = ownT (id + 1) l ∧ isPl (anchT id l) = true ∧ anchT id l ≠ id := by
  have hp := rightB_pl h
  have hs := an_some hid l (-1) hp (rightB_two h id)
  match l with
  | [] => exact absurd rfl hs
  | a :: r =>
    have ha := isPl_t (hp a (List.mem_cons_self ..))
    have e : plT a = a := by unfold plT; omega
    have h0 : owS (id + 1) a a = a := by simp [owS, e]
    have hS : ownT (id + 1) (a :: r) = r.foldl (owS (id + 1)) a := by
      show (a :: r).foldl (owS (id + 1)) (plT a) = _
      rw [e, List.foldl_cons, h0]
    have hA : anchT id (a :: r) = r.foldl (anS id) (anS id (-1) a) := rfl
    rw [hS, hA]
    have hR : (anS id (-1) a = -1 ∧ a = id) ∨ (anS id (-1) a = a ∧ anS id (-1) a ≠ id ∧ isPl (anS id (-1) a) = true) := by
      by_cases e2 : a = id
      · left; exact ⟨by simp [anS, e2], e2⟩
      · right
        have e3 : anS id (-1) a = a := by simp [anS, e2]
        rw [e3]
        exact ⟨rfl, e2, hp a (List.mem_cons_self ..)⟩
    rcases an_ow hid r _ _ (fun y hy => hp y (List.mem_cons_of_mem _ hy)) hR with h1 | h1
    · exact absurd h1.1 hs
    · exact ⟨h1.1, h1.2.2, h1.2.1⟩

def anT (v : View) : Int := if rightV v then anchT v.id v.base else -1
def orA (a : Int) : List Int → Int
  | [] => a
  | b :: _ => b
def fiT (v : View) : Int := if rightV v then orA (anchT v.id v.base) v.list else -1
theorem rightV_t {v : View} (h : rightV v = true) : isPl v.id = true ∧ rightB v.base = true ∧ rightL v.id v.list = true ∧ otT v.id v.pred = true ∧ (fins v.f).all (otT v.id) = true := by
  simp only [rightV, Bool.and_eq_true] at h
  exact ⟨h.1.1.1, h.1.1.2, h.1.2, h.2.1, h.2.2⟩
end Go.Proofs.YtjiejhikjlhchaaDoor
