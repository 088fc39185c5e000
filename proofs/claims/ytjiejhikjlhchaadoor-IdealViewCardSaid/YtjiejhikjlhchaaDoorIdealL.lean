/- Written by a program (pre.py) from the source of the same name. -/
/- How a circle ought to be: once round: the plain law. -/
import Derived.Test.YtjiejhikjlhchaaDoorIdealI
set_option linter.unusedSimpArgs false
set_option linter.unusedVariables false
set_option linter.unnecessarySimpa false
namespace Go.Proofs.YtjiejhikjlhchaaDoor
open Go.Gar
set_option maxRecDepth 4000

theorem up_rT {x : Int} : ∀ (l : List Int) (f : Int), upT x l → (∀ y ∈ l, isPl y = true ∧ farT x y > f) → rT x f l = true
  | [], f, _, _ => rfl
  | a :: r, f, h, hp => by
    cases h with
    | cons h1 h2 =>
      simp only [rT, Bool.and_eq_true, decide_eq_true_eq]
      exact ⟨hp a (List.mem_cons_self ..), up_rT r _ h2 fun y hy => ⟨(hp y (List.mem_cons_of_mem _ hy)).1, h1 y hy⟩⟩
/-- A member's list may be; it skips no member. -/
theorem list_ok {l : List Int} {x : Int} (hR : rightM l = true) (hx : x ∈ l) : rightL x (listT l x) = true ∧ skT x (listT l x) l = false ∧ (listT l x).length = min (l.length - 1) 3 ∧ ∀ y ∈ listT l x, y ∈ l ∧ y ≠ x := by
  obtain ⟨r1, r2, r3, r4⟩ := rightM_t hR
  have hxp := r4 x hx
  have hxp' := isPl_t hxp
  have hup := rot_up hxp r4 r3
  have hlen := rot_len r3 hx
  have hL : listT l x = (rotT x l).take 3 := by unfold listT; rw [oth_yes hR hx]
  have hself : farT x x = 0 := by unfold farT; omega
  have hmem : ∀ y ∈ rotT x l, isPl y = true ∧ farT x y > 0 := fun y hy => by
    obtain ⟨h1, h2⟩ := rot_mem.1 hy
    have h3 := isPl_t (r4 y h1)
    exact ⟨r4 y h1, by unfold farT; omega⟩
  have hrT : rT x 0 (listT l x) = true := by
    rw [hL]
    exact up_rT _ _ (hup.sublist (List.take_sublist _ _)) fun y hy => hmem y (List.mem_of_mem_take hy)
  refine ⟨?_, ?_, by rw [hL, List.length_take]; omega, fun y hy => ?_⟩
  · unfold rightL
    rw [hrT, Bool.and_true]
    exact decide_eq_true (listT_len l x)
  · cases hs : skT x (listT l x) l with
    | false => rfl
    | true =>
      obtain ⟨b, h1, h2, ⟨p, h3, h4⟩, h5⟩ := (sk_iff r4 (listT l x) x (by rw [hself]; exact hrT)).1 hs
      exfalso
      rw [hself] at h2
      rw [hL] at h3 h5
      have hb : b ∈ rotT x l := rot_mem.2 ⟨h1, fun e => by rw [e, hself] at h2; omega⟩
      obtain ⟨i, hi, rfl⟩ := List.mem_iff_getElem.1 hb
      obtain ⟨j, hj, rfl⟩ := List.mem_iff_getElem.1 h3
      rw [List.length_take] at hj
      rw [List.getElem_take] at h4
      have hij : i < j := by
        rcases Nat.lt_trichotomy i j with h | h | h
        · exact h
        · subst h; omega
        · have := List.pairwise_iff_getElem.1 hup j i (by omega) hi h; omega
      refine h5 ?_
      exact List.mem_iff_getElem.2 ⟨i, by rw [List.length_take]; omega, List.getElem_take⟩
  · rw [hL] at hy
    exact rot_mem.1 (List.mem_of_mem_take hy)
/-- Places one behind the other, from the i-th on, k steps. -/
def ixR (n i k : Nat) : Nat := if i + k < n then i + k else i + k - n
theorem rot_head {l : List Int} (hR : rightM l = true) (hn : 2 ≤ l.length) {j : Nat} (hj : j < l.length) : ∃ (h : ixR l.length j 1 < l.length), (listT l l[j])[0]? = some (l[ixR l.length j 1]) := by
  obtain ⟨r1, r2, r3, r4⟩ := rightM_t hR
  have hL : listT l l[j] = (rotT l[j] l).take 3 := by unfold listT; rw [oth_yes hR (List.getElem_mem hj)]
  have hix : ixR l.length j 1 < l.length := by unfold ixR; split <;> omega
  refine ⟨hix, ?_⟩
  rw [hL, List.getElem?_take_of_lt (by omega), rot_at r3 hj]
  unfold ixR at hix ⊢
  by_cases h : j + 1 < l.length
  · simp only [h, if_true]
    rw [List.getElem?_append_left (by simp; omega), List.getElem?_drop, List.getElem?_eq_getElem (by omega)]
  · simp only [h, if_false]
    have e : l.drop (j + 1) = [] := List.drop_eq_nil_iff.2 (by omega)
    rw [e, List.nil_append, List.getElem?_take_of_lt (by omega), List.getElem?_eq_getElem (by omega)]
    congr 1
    have : j + 1 - l.length = 0 := by omega
    simp [this]
theorem rot_last {l : List Int} (hR : rightM l = true) (hn : 2 ≤ l.length) {j : Nat} (hj : j < l.length) : ∃ (h : ixR l.length j 1 < l.length), predT l (l[ixR l.length j 1]) = l[j] := by
  obtain ⟨r1, r2, r3, r4⟩ := rightM_t hR
  have hix : ixR l.length j 1 < l.length := by unfold ixR; split <;> omega
  refine ⟨hix, ?_⟩
  unfold predT
  rw [oth_yes hR (List.getElem_mem hix)]
  show (rotT _ l).getLastD (-1) = _
  rw [rot_at r3 hix, List.getLastD_eq_getLast?]
  unfold ixR at hix ⊢
  by_cases h : j + 1 < l.length
  · simp only [h, if_true]
    have e : l.take (j + 1) = l.take j ++ [l[j]] := by rw [List.take_add_one, List.getElem?_eq_getElem hj]; rfl
    rw [e, ← List.append_assoc, List.getLast?_concat]; rfl
  · simp only [h, if_false]
    have h0 : j + 1 - l.length = 0 := by omega
    have hjl : j = l.length - 1 := by omega
    simp only [h0, List.take_zero, List.append_nil, Nat.zero_add]
    rw [List.getLast?_drop, if_neg (by omega), List.getLast?_eq_getElem?, List.getElem?_eq_getElem (by omega)]
    simp [hjl]
/-- How far k steps lead. -/
def sumR (l : List Int) (i k : Nat) : Int := if i + k < l.length then l.getD (i + k) 0 - l.getD i 0 else l.getD (i + k - l.length) 0 - l.getD i 0 + 65536
theorem getD_get {l : List Int} {i : Nat} (h : i < l.length) : l.getD i 0 = l[i] := by
  rw [List.getD_eq_getElem?_getD, List.getElem?_eq_getElem h]; rfl
theorem sum_step {l : List Int} (hR : rightM l = true) (hn : 2 ≤ l.length) {i k : Nat} (hi : i < l.length) (hk : k < l.length) :
    sumR l i (k + 1) = sumR l i k + farT (l.getD (ixR l.length i k) 0) (l.getD (ixR l.length i (k + 1)) 0) ∧ 0 ≤ sumR l i k ∧ sumR l i k ≤ 65536 ∧
    (k + 1 < l.length → farT (l.getD i 0) (l.getD (ixR l.length i (k + 1)) 0) = sumR l i (k + 1)) ∧ (l.getD (ixR l.length i (k + 1)) 0 = l.getD i 0 ↔ k + 1 = l.length) := by
  obtain ⟨r1, r2, r3, r4⟩ := rightM_t hR
  have hp : ∀ a, a < l.length → 0 ≤ l.getD a 0 ∧ l.getD a 0 < 65536 := fun a ha => by rw [getD_get ha]; exact isPl_t (r4 _ (List.getElem_mem ha))
  have hm : ∀ a b, a < b → b < l.length → l.getD a 0 < l.getD b 0 := fun a b hab hb => by
    rw [getD_get (by omega), getD_get hb]; exact List.pairwise_iff_getElem.1 r3 a b (by omega) hb hab
  have h0 := hp i hi
  generalize hN : l.length = n at *
  by_cases c1 : i + k + 1 < n
  · have e1 : ixR n i k = i + k := if_pos (by omega)
    have e2 : ixR n i (k + 1) = i + (k + 1) := if_pos (by omega)
    have e3 : sumR l i k = l.getD (i + k) 0 - l.getD i 0 := by unfold sumR; rw [hN]; exact if_pos (by omega)
    have e4 : sumR l i (k + 1) = l.getD (i + (k + 1)) 0 - l.getD i 0 := by unfold sumR; rw [hN]; exact if_pos (by omega)
    rw [e1, e2, e3, e4]
    have h1 := hp (i + k) (by omega)
    have h2 := hp (i + (k + 1)) (by omega)
    have h3 := hm (i + k) (i + (k + 1)) (by omega) (by omega)
    have h4 := hm i (i + (k + 1)) (by omega) (by omega)
    have h5 : l.getD i 0 ≤ l.getD (i + k) 0 := by
      by_cases e : k = 0
      · subst e; exact Int.le_refl _
      · exact Int.le_of_lt (hm i (i + k) (by omega) (by omega))
    refine ⟨by unfold farT; omega, by omega, by omega, fun _ => by unfold farT; omega, ⟨fun h => by omega, fun h => by omega⟩⟩
  · by_cases c2 : i + k < n
    · have e1 : ixR n i k = i + k := if_pos (by omega)
      have e2 : ixR n i (k + 1) = 0 := by unfold ixR; rw [if_neg (by omega)]; omega
      have e3 : sumR l i k = l.getD (i + k) 0 - l.getD i 0 := by unfold sumR; rw [hN]; exact if_pos (by omega)
      have e4 : sumR l i (k + 1) = l.getD 0 0 - l.getD i 0 + 65536 := by
        unfold sumR; rw [hN, if_neg (by omega), show i + (k + 1) - n = 0 by omega]
      rw [e1, e2, e3, e4]
      have h1 := hp (i + k) (by omega)
      have h2 := hp 0 (by omega)
      have h3 := hm 0 (i + k) (by omega) (by omega)
      have h5 : l.getD i 0 ≤ l.getD (i + k) 0 := by
        by_cases e : k = 0
        · subst e; exact Int.le_refl _
        · exact Int.le_of_lt (hm i (i + k) (by omega) (by omega))
      refine ⟨by unfold farT; omega, by omega, by omega, fun hh => ?_, ⟨fun h => ?_, fun h => ?_⟩⟩
      · have h6 := hm 0 i (by omega) (by omega)
        unfold farT; omega
      · rcases Nat.eq_zero_or_pos i with e | e
        · omega
        · have h6 := hm 0 i e (by omega); omega
      · have : i = 0 := by omega
        rw [this]
    · have e1 : ixR n i k = i + k - n := if_neg (by omega)
      have e2 : ixR n i (k + 1) = i + (k + 1) - n := if_neg (by omega)
      have e3 : sumR l i k = l.getD (i + k - n) 0 - l.getD i 0 + 65536 := by unfold sumR; rw [hN]; exact if_neg (by omega)
      have e4 : sumR l i (k + 1) = l.getD (i + (k + 1) - n) 0 - l.getD i 0 + 65536 := by unfold sumR; rw [hN]; exact if_neg (by omega)
      rw [e1, e2, e3, e4]
      have h1 := hp (i + k - n) (by omega)
      have h2 := hp (i + (k + 1) - n) (by omega)
      have h3 := hm (i + k - n) (i + (k + 1) - n) (by omega) (by omega)
      have h4 := hm (i + k - n) i (by omega) (by omega)
      have h5 : l.getD (i + (k + 1) - n) 0 ≤ l.getD i 0 := by
        by_cases e : k + 1 = n
        · rw [show i + (k + 1) - n = i by omega]; exact Int.le_refl _
        · exact Int.le_of_lt (hm (i + (k + 1) - n) i (by omega) (by omega))
      refine ⟨by unfold farT; omega, by omega, by omega, fun hh => ?_, ⟨fun h => ?_, fun h => ?_⟩⟩
      · have h6 := hm (i + (k + 1) - n) i (by omega) (by omega)
        unfold farT; omega
      · rcases Nat.lt_or_ge (k + 1) n with e | e
        · have h6 := hm (i + (k + 1) - n) i (by omega) (by omega); omega
        · omega
      · rw [show i + (k + 1) - n = i by omega]
end Go.Proofs.YtjiejhikjlhchaaDoor
