/- Written by a program (pre.py) from the source of the same name. -/
/- How a circle ought to be: rows that rise, and turned so that one is the first. Plain. -/
import Derived.Test.YtjiejhikjlhchaaDoorViewH
import Derived.Test.YtjiejhikjlhchaaDoorViewB
set_option linter.unusedSimpArgs false
set_option linter.unusedVariables false
set_option linter.unnecessarySimpa false
namespace Go.Proofs.YtjiejhikjlhchaaDoor
open Go.Gar
set_option maxRecDepth 4000

/-- One is chosen: the least one of those that may be. -/
def selG (c : Int → Bool) (m : Int → Int) (n a : Int) : Int := if c a = true ∧ (n < 0 ∨ m a < m n) then a else n
theorem selG_spec (c : Int → Bool) (m : Int → Int) (h0 : ∀ a, c a = true → 0 ≤ a) : ∀ (l : List Int) (n : Int), (n < 0 → n = -1) → (0 ≤ n → c n = true) →
    (l.foldl (selG c m) n = -1 ∧ n = -1 ∧ ∀ a ∈ l, c a = false) ∨
    (c (l.foldl (selG c m) n) = true ∧ (l.foldl (selG c m) n = n ∨ l.foldl (selG c m) n ∈ l) ∧ (0 ≤ n → m (l.foldl (selG c m) n) ≤ m n) ∧ ∀ a ∈ l, c a = true → m (l.foldl (selG c m) n) ≤ m a)
  | [], n, h1, h2 => by
    by_cases h : n < 0
    · left; exact ⟨h1 h, h1 h, fun _ h => by cases h⟩
    · right; exact ⟨h2 (by omega), .inl rfl, fun _ => Int.le_refl _, fun _ h => by cases h⟩
  | a :: l, n, h1, h2 => by
    simp only [List.foldl_cons]
    by_cases hc : c a = true ∧ (n < 0 ∨ m a < m n)
    · have e : selG c m n a = a := if_pos hc
      rw [e]
      have ha := h0 a hc.1
      rcases selG_spec c m h0 l a (fun h => by omega) (fun _ => hc.1) with ⟨-, h, -⟩ | ⟨g1, g2, g3, g4⟩
      · omega
      · right
        have g3 := g3 ha
        refine ⟨g1, .inr ?_, fun h => ?_, fun b hb hcb => ?_⟩
        · rcases g2 with g2 | g2
          · rw [g2]; exact List.mem_cons_self ..
          · exact List.mem_cons_of_mem _ g2
        · rcases hc.2 with h3 | h3 <;> omega
        · rcases List.mem_cons.1 hb with rfl | hb
          · exact g3
          · exact g4 b hb hcb
    · have e : selG c m n a = n := if_neg hc
      rw [e]
      rcases selG_spec c m h0 l n h1 h2 with ⟨g1, g2, g3⟩ | ⟨g1, g2, g3, g4⟩
      · left
        refine ⟨g1, g2, fun b hb => ?_⟩
        rcases List.mem_cons.1 hb with rfl | hb
        · cases h : c b with
          | false => rfl
          | true => exact absurd ⟨h, .inl (by omega)⟩ hc
        · exact g3 b hb
      · right
        refine ⟨g1, g2.elim .inl fun h => .inr (List.mem_cons_of_mem _ h), g3, fun b hb hcb => ?_⟩
        rcases List.mem_cons.1 hb with rfl | hb
        · by_cases h : n < 0
          · exact absurd ⟨hcb, .inl h⟩ hc
          · have := g3 (by omega)
            have h5 : ¬ (m b < m n) := fun h6 => hc ⟨hcb, .inr h6⟩
            omega
        · exact g4 b hb hcb
/-- What is chosen behind the first k of a row that rises. -/
theorem pick_at {c : Int → Bool} {m : Int → Int} {all K : List Int} (h0 : ∀ a, c a = true → 0 ≤ a) (hu : K.Pairwise fun a b => m a < m b) (hK : ∀ x ∈ K, x ∈ all) {k : Nat} (hk : k ≤ K.length)
    (hc : ∀ a ∈ all, c a = true → ∃ j, ∃ hj : j < K.length, K[j] = a ∧ k ≤ j) (hb : ∀ j (hj : j < K.length), k ≤ j → c K[j] = true) :
    (∀ x, K[k]? = some x → all.foldl (selG c m) (-1) = x) ∧ (K[k]? = none → all.foldl (selG c m) (-1) = -1) := by
  have hs := selG_spec c m h0 all (-1) (fun _ => rfl) (fun h => by omega)
  have hmono : ∀ (i j : Nat) (hi : i < K.length) (hj : j < K.length), i < j → m K[i] < m K[j] := fun i j hi hj h => List.pairwise_iff_getElem.1 hu i j hi hj h
  constructor
  · intro x hx
    obtain ⟨hk2, rfl⟩ := List.getElem?_eq_some_iff.1 hx
    have hall := hK _ (List.getElem_mem hk2)
    rcases hs with ⟨-, -, h⟩ | ⟨h1, h2, -, h4⟩
    · have := h _ hall
      rw [hb k hk2 (Nat.le_refl _)] at this; cases this
    · have hr := h2.resolve_left (fun e => by have := h0 _ h1; omega)
      obtain ⟨j, hj, e, hkj⟩ := hc _ hr h1
      have h5 := h4 _ hall (hb k hk2 (Nat.le_refl _))
      rw [← e] at h5 ⊢
      rcases Nat.lt_or_ge k j with h7 | h7
      · have := hmono k j hk2 hj h7; omega
      · have : j = k := by omega
        subst this; rfl
  · intro hx
    have hk2 : K.length ≤ k := List.getElem?_eq_none_iff.1 hx
    rcases hs with ⟨h, -, -⟩ | ⟨h1, h2, -, -⟩
    · exact h
    · have hr := h2.resolve_left (fun e => by have := h0 _ h1; omega)
      obtain ⟨j, hj, e, hkj⟩ := hc _ hr h1
      omega

theorem bT_pw : ∀ (l : List Int) (f : Int), bT f l = true → l.Pairwise (· < ·)
  | [], f, _ => .nil
  | a :: r, f, h => by
    simp only [bT, Bool.and_eq_true] at h
    exact .cons (fun y hy => (bT_all r a h.2 y hy).2) (bT_pw r a h.2)
theorem pw_bT : ∀ (l : List Int) (f : Int), l.Pairwise (· < ·) → (∀ y ∈ l, isPl y = true ∧ y > f) → bT f l = true
  | [], f, _, _ => rfl
  | a :: r, f, h, hp => by
    cases h with
    | cons h1 h2 =>
      simp only [bT, Bool.and_eq_true, decide_eq_true_eq]
      exact ⟨hp a (List.mem_cons_self ..), pw_bT r a h2 fun y hy => ⟨(hp y (List.mem_cons_of_mem _ hy)).1, h1 y hy⟩⟩
/-- May it be a row of members? -/
def rightM (l : List Int) : Bool := (decide (1 ≤ l.length) && decide (l.length ≤ 12)) && bT (-1) l
theorem rightM_t {l : List Int} (h : rightM l = true) : 1 ≤ l.length ∧ l.length ≤ 12 ∧ l.Pairwise (· < ·) ∧ ∀ y ∈ l, isPl y = true := by
  simp only [rightM, Bool.and_eq_true, decide_eq_true_eq] at h
  exact ⟨h.1.1, h.1.2, bT_pw l _ h.2, fun y hy => (bT_all l _ h.2 y hy).1⟩
/-- The others, the least far one first. -/
def rotT (x : Int) (l : List Int) : List Int := l.filter (fun y => decide (x < y)) ++ l.filter (fun y => decide (y < x))
theorem rot_mem {x y : Int} {l : List Int} : y ∈ rotT x l ↔ y ∈ l ∧ y ≠ x := by
  simp only [rotT, List.mem_append, List.mem_filter, decide_eq_true_eq]
  constructor
  · rintro (⟨h, h2⟩ | ⟨h, h2⟩)
    · exact ⟨h, by omega⟩
    · exact ⟨h, by omega⟩
  · rintro ⟨h, h2⟩
    by_cases e : x < y
    · exact .inl ⟨h, e⟩
    · exact .inr ⟨h, by omega⟩
theorem rot_up {x : Int} {l : List Int} (hx : isPl x = true) (hl : ∀ y ∈ l, isPl y = true) (hp : l.Pairwise (· < ·)) : upT x (rotT x l) := by
  have hx' := isPl_t hx
  refine List.pairwise_append.2 ⟨?_, ?_, fun a ha b hb => ?_⟩
  · refine List.Pairwise.imp_of_mem ?_ (List.Pairwise.filter _ hp)
    intro a b ha hb hab
    simp only [List.mem_filter, decide_eq_true_eq] at ha hb
    have h1 := isPl_t (hl a ha.1); have h2 := isPl_t (hl b hb.1)
    unfold farT; omega
  · refine List.Pairwise.imp_of_mem ?_ (List.Pairwise.filter _ hp)
    intro a b ha hb hab
    simp only [List.mem_filter, decide_eq_true_eq] at ha hb
    have h1 := isPl_t (hl a ha.1); have h2 := isPl_t (hl b hb.1)
    unfold farT; omega
  · simp only [List.mem_filter, decide_eq_true_eq] at ha hb
    have h1 := isPl_t (hl a ha.1); have h2 := isPl_t (hl b hb.1)
    unfold farT; omega
theorem rot_at {l : List Int} (hp : l.Pairwise (· < ·)) {i : Nat} (hi : i < l.length) : rotT l[i] l = l.drop (i + 1) ++ l.take i := by
  have e : l = l.take i ++ l[i] :: l.drop (i + 1) := by
    rw [← List.drop_eq_getElem_cons hi, List.take_append_drop]
  have hp2 := hp
  rw [e, List.pairwise_append] at hp2
  obtain ⟨_, h2, h3⟩ := hp2
  cases h2 with
  | cons h4 h5 =>
  have f1 : ∀ y ∈ l.take i, y < l[i] := fun y hy => h3 y hy _ (List.mem_cons_self ..)
  have f2 : ∀ y ∈ l.drop (i + 1), l[i] < y := fun y hy => h4 y hy
  generalize hx : l[i] = x at *
  generalize l.take i = a at *
  generalize l.drop (i + 1) = b at *
  subst e
  unfold rotT
  have g1 : (a.filter fun y => decide (x < y)) = [] := List.filter_eq_nil_iff.2 fun y hy => by have := f1 y hy; simp; omega
  have g2 : (b.filter fun y => decide (x < y)) = b := List.filter_eq_self.2 fun y hy => by have := f2 y hy; simpa using this
  have g3 : (a.filter fun y => decide (y < x)) = a := List.filter_eq_self.2 fun y hy => by have := f1 y hy; simpa using this
  have g4 : (b.filter fun y => decide (y < x)) = [] := List.filter_eq_nil_iff.2 fun y hy => by have := f2 y hy; simp; omega
  rw [List.filter_append, List.filter_append, g1, g3, List.filter_cons_of_neg (by simp), List.filter_cons_of_neg (by simp), g2, g4]
  simp
theorem rot_len {l : List Int} (hp : l.Pairwise (· < ·)) {x : Int} (hx : x ∈ l) : (rotT x l).length + 1 = l.length := by
  obtain ⟨i, hi, rfl⟩ := List.mem_iff_getElem.1 hx
  rw [rot_at hp hi]
  simp; omega
/-- All members: places among numbers, each once, rising. -/
theorem up0_pw {l : List Int} (hl : ∀ y ∈ l, isPl y = true) : upT 0 l ↔ l.Pairwise (· < ·) := by
  constructor
  · intro h
    refine List.Pairwise.imp_of_mem ?_ h
    intro a b ha hb hab
    have h1 := isPl_t (hl a ha); have h2 := isPl_t (hl b hb)
    unfold farT at hab; omega
  · intro h
    refine List.Pairwise.imp_of_mem ?_ h
    intro a b ha hb hab
    have h1 := isPl_t (hl a ha); have h2 := isPl_t (hl b hb)
    unfold farT; omega
def sortI (zs : List Int) : List Int := zs.mergeSort fun x y => decide (x ≤ y)
theorem sortI_sorted (zs : List Int) : (sortI zs).Pairwise (· ≤ ·) := by
  have h := List.pairwise_mergeSort (le := fun x y : Int => decide (x ≤ y)) (fun a b c h1 h2 => by simp only [decide_eq_true_eq] at *; omega) (fun a b => by simp only [Bool.or_eq_true, decide_eq_true_eq]; omega) zs
  exact h.imp fun h => by simpa using h
def memT (l : List Int) : List Int := Lib.compact (sortI (l.filter isPl))
theorem memT_spec (l : List Int) : (memT l).Pairwise (· < ·) ∧ ∀ x, x ∈ memT l ↔ x ∈ l ∧ isPl x = true := by
  have hs := sortI_sorted (l.filter isPl)
  have hmem : ∀ x, x ∈ sortI (l.filter isPl) ↔ x ∈ l ∧ isPl x = true := fun x => by
    unfold sortI; rw [List.mem_mergeSort, List.mem_filter]
  unfold memT
  generalize sortI (l.filter isPl) = zs at *
  have hg : ∀ i (hi : i < zs.length), zs.toArray[i]! = zs[i] := fun i hi => by
    rw [getElem!_pos _ i (by simpa using hi)]; simp
  have hp : ∀ i, i < zs.toArray.size → isPl zs.toArray[i]! = true := fun i hi => by
    have hi' : i < zs.length := by simpa using hi
    rw [hg i hi']; exact ((hmem _).1 (List.getElem_mem hi')).2
  have hm : ∀ i j, i ≤ j → j < zs.toArray.size → farT 0 zs.toArray[i]! ≤ farT 0 zs.toArray[j]! := by
    intro i j hij hj
    have hj' : j < zs.length := by simpa using hj
    have h1 := isPl_t (hp i (by omega)); have h2 := isPl_t (hp j hj)
    rw [hg i (by omega)] at h1; rw [hg j hj'] at h2
    rw [hg i (by omega), hg j hj']
    have : zs[i] ≤ zs[j] := by
      by_cases e : i = j
      · subst e; exact Int.le_refl _
      · exact List.pairwise_iff_getElem.1 hs i j (by omega) hj' (by omega)
    unfold farT; omega
  obtain ⟨h1, h2⟩ := compact_far hp hm zs.toArray.size (Nat.le_refl _)
  have hx : ∀ x, x ∈ Lib.compact zs ↔ x ∈ l ∧ isPl x = true := fun x => by
    refine (h2 x).trans ?_
    rw [← hmem]
    constructor
    · rintro ⟨j, hj, rfl⟩
      have hj' : j < zs.length := by simpa using hj
      rw [hg j hj']; exact List.getElem_mem hj'
    · intro hx
      obtain ⟨j, hj, e⟩ := List.getElem_of_mem hx
      exact ⟨j, by simpa using hj, by rw [hg j hj]; exact e⟩
  exact ⟨(up0_pw fun y hy => ((hx y).1 hy).2).1 h1, hx⟩
theorem pw_nodup {l : List Int} (h : l.Pairwise (· < ·)) : l.Nodup := h.imp fun h e => by subst e; omega
theorem pw_unique {a b : List Int} (ha : a.Pairwise (· < ·)) (hb : b.Pairwise (· < ·)) (h : ∀ x, x ∈ a ↔ x ∈ b) : a = b := by
  refine List.Perm.eq_of_pairwise (le := fun x y => x < y) (fun x y _ _ h1 h2 => ?_) ha hb ((List.perm_ext_iff_of_nodup (pw_nodup ha) (pw_nodup hb)).2 h)
  omega
theorem mem_len (l : List Int) : (memT l).length ≤ l.length := by
  obtain ⟨h1, h2⟩ := memT_spec l
  exact (pw_nodup h1).length_le_of_subset fun x hx => ((h2 x).1 hx).1
theorem mem_bT (l : List Int) : bT (-1) (memT l) = true := by
  obtain ⟨h1, h2⟩ := memT_spec l
  refine pw_bT _ _ h1 fun y hy => ?_
  have := isPl_t ((h2 y).1 hy).2
  exact ⟨((h2 y).1 hy).2, by omega⟩
/-- Who owns a key. -/
theorem own_spec {key : Int} : ∀ (l : List Int) (o : Int), (∀ y ∈ l, isPl y = true) → (l.foldl (owS key) o = o ∨ l.foldl (owS key) o ∈ l) ∧ farT key (l.foldl (owS key) o) ≤ farT key o ∧ ∀ b ∈ l, farT key (l.foldl (owS key) o) ≤ farT key b
  | [], o, _ => ⟨.inl rfl, Int.le_refl _, fun _ h => by cases h⟩
  | a :: l, o, hl => by
    simp only [List.foldl_cons]
    have ha := isPl_t (hl a (List.mem_cons_self ..))
    have e : plT a = a := by unfold plT; omega
    obtain ⟨h1, h2, h3⟩ := own_spec l (owS key o a) fun y hy => hl y (List.mem_cons_of_mem _ hy)
    by_cases hc : farT key a < farT key o
    · have es : owS key o a = a := by unfold owS; rw [if_pos hc, e]
      rw [es] at h1 h2 h3 ⊢
      refine ⟨.inr (h1.elim (fun h => by rw [h]; exact List.mem_cons_self ..) (List.mem_cons_of_mem _)), by omega, fun b hb => ?_⟩
      rcases List.mem_cons.1 hb with rfl | hb
      · exact h2
      · exact h3 b hb
    · have es : owS key o a = o := by unfold owS; rw [if_neg hc]
      rw [es] at h1 h2 h3 ⊢
      refine ⟨h1.elim .inl fun h => .inr (List.mem_cons_of_mem _ h), h2, fun b hb => ?_⟩
      rcases List.mem_cons.1 hb with rfl | hb
      · omega
      · exact h3 b hb
theorem own_ok {key : Int} {l : List Int} (h : l ≠ []) (hl : ∀ y ∈ l, isPl y = true) : ownT key l ∈ l ∧ ∀ b ∈ l, farT key (ownT key l) ≤ farT key b := by
  cases l with
  | nil => exact absurd rfl h
  | cons a r =>
    have ha := isPl_t (hl a (List.mem_cons_self ..))
    have e : plT a = a := by unfold plT; omega
    obtain ⟨h1, h2, h3⟩ := own_spec (key := key) (a :: r) (plT a) hl
    rw [e] at h1 h2 h3
    refine ⟨?_, ?_⟩
    · show (a :: r).foldl (owS key) (plT a) ∈ _
      rw [e]
      exact h1.elim (fun h => by rw [h]; exact List.mem_cons_self ..) id
    · show ∀ b ∈ _, farT key ((a :: r).foldl (owS key) (plT a)) ≤ _
      rw [e]; exact h3
end Go.Proofs.YtjiejhikjlhchaaDoor
