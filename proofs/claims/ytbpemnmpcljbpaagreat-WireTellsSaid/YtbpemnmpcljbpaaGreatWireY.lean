/- Written by a program (pre.py) from the source of the same name. -/
/- Payloads, plain: what is put is read, what is read was put. -/
import Derived.Test.YtbpemnmpcljbpaaGreatWireX
import Derived.Test.YtbpemnmpcljbpaaGreatFwE
set_option linter.unusedSimpArgs false
set_option linter.unusedVariables false
set_option linter.unnecessarySimpa false
namespace Go.Proofs.YtbpemnmpcljbpaaGreat
namespace Wi
open Go.Gar
set_option maxRecDepth 4000

theorem pNum_iff {b r : List UInt8} {n : Nat} : pNum b = some (n, r) ↔ b = numB n ++ r ∧ n ≤ 1099511627776 := by
  constructor
  · intro h; exact numB_take (pNum_some h)
  · rintro ⟨rfl, hn⟩
    unfold pNum
    rw [take_numB n r hn]
    simp
theorem pText_iff {b s r : List UInt8} : pText b = some (s, r) ↔ b = textB s ++ r ∧ s.length ≤ 255 := by
  constructor
  · intro h
    have e := pText_some h
    rcases takeTextS_cases b with ⟨s', r', h1, h2, h3⟩ | h1
    · rw [h1] at e
      simp only [Prod.mk.injEq, and_true] at e
      obtain ⟨rfl, rfl⟩ := e
      exact ⟨h2, h3⟩
    · rw [h1] at e; simp at e
  · rintro ⟨rfl, hs⟩
    unfold pText textB
    rw [text_back s r hs]
    simp
theorem pList_iff {b r : List UInt8} {l : List Int} : pList b = some (l, r) ↔ b = (UInt8.ofNat l.length :: numsB l) ++ r ∧ l.length ≤ 255 ∧ l.all fits = true := by
  constructor
  · intro h
    have e := pList_some h
    rcases takeListS_cases b with ⟨l', r', h1, h2, h3, h4⟩ | ⟨e', h1, h2⟩
    · rw [h1] at e
      simp only [Prod.mk.injEq, and_true] at e
      obtain ⟨rfl, rfl⟩ := e
      exact ⟨h2, h3, h4⟩
    · rw [h1] at e; simp at e; exact absurd e.2.2 h2
  · rintro ⟨rfl, hl, hf⟩
    unfold pList
    rw [list_back l r hl hf]
    simp
def bitN (b : Bool) : Nat := if b then 1 else 0
theorem bit_nat (b : Bool) : bitI b = (bitN b : Nat) := by cases b <;> rfl
theorem pFlag_iff {b r : List UInt8} {g : Bool} : pFlag b = some (g, r) ↔ b = numB (bitN g) ++ r := by
  constructor
  · intro h
    unfold pFlag at h
    split at h
    · rename_i n r' hn
      split at h
      · cases h
      · rename_i h1
        simp only [Option.some.injEq, Prod.mk.injEq] at h
        obtain ⟨rfl, rfl⟩ := h
        obtain ⟨e, _⟩ := pNum_iff.1 hn
        rw [e]
        have : n = bitN (n == 1) := by
          have : n = 0 ∨ n = 1 := by omega
          rcases this with rfl | rfl <;> rfl
        rw [← this]
    · cases h
  · rintro rfl
    unfold pFlag
    rw [pNum_iff.2 ⟨rfl, by cases g <;> decide⟩]
    cases g <;> rfl
theorem toNat_of {n : Int} (h : fits n = true) : ((n.toNat : Nat) : Int) = n ∧ n.toNat ≤ 1099511627776 := by
  simp [fits] at h; omega
theorem pNum_put {n : Int} (h : fits n = true) (r : List UInt8) : pNum (numsB [n] ++ r) = some (n.toNat, r) := by
  rw [pNum_iff]; exact ⟨by simp [numsB], (toNat_of h).2⟩
theorem pFlag_put (g : Bool) (r : List UInt8) : pFlag (numsB [bitI g] ++ r) = some (g, r) := by
  rw [pFlag_iff, bit_nat]; simp [numsB]
theorem pairB_eq (x : Item) : pairB x = textB x.key ++ (numsB [x.value] ++ (numsB [x.version] ++ numsB [bitI x.gone])) := by simp [pairB, numsB]
theorem pPair_put (x : Item) (hk : x.key.length ≤ 255) (hv : fits x.value = true) (hn : fits x.version = true) (r : List UInt8) : pPair (pairB x ++ r) = some (x, r) := by
  unfold pPair
  rw [pairB_eq, List.append_assoc, pText_iff.2 ⟨rfl, hk⟩]
  simp only
  rw [List.append_assoc, pNum_put hv]
  simp only
  rw [List.append_assoc, pNum_put hn]
  simp only
  rw [pFlag_put]
  simp only [(toNat_of hv).1, (toNat_of hn).1]
theorem pPair_get {b r : List UInt8} {x : Item} (h : pPair b = some (x, r)) : b = pairB x ++ r := by
  unfold pPair at h
  split at h
  · cases h
  rename_i k b1 h1
  split at h
  · cases h
  rename_i v b2 h2
  split at h
  · cases h
  rename_i n b3 h3
  split at h
  · cases h
  rename_i g b4 h4
  simp only [Option.some.injEq, Prod.mk.injEq] at h
  obtain ⟨rfl, rfl⟩ := h
  rw [(pText_iff.1 h1).1, (pNum_iff.1 h2).1, (pNum_iff.1 h3).1, pFlag_iff.1 h4, pairB_eq]
  simp [numsB, bit_nat]

theorem pHead_put (m : Msg) (hk : 0 ≤ m.kind ∧ m.kind < 13) (h1 : fits m.call = true) (h2 : fits m.src = true) (h3 : fits m.dst = true) (r : List UInt8) : pHead zeroM (numsB [m.kind, m.call, m.src, m.dst] ++ r) = some (m.empty, r) := by
  have hkf : fits m.kind = true := fits_of (by omega)
  have e : numsB [m.kind, m.call, m.src, m.dst] ++ r = numsB [m.kind] ++ (numsB [m.call] ++ (numsB [m.src] ++ (numsB [m.dst] ++ r))) := by simp [numsB]
  unfold pHead
  rw [e, pNum_put hkf]
  simp only
  rw [if_neg (by omega), pNum_put h1]
  simp only
  rw [pNum_put h2]
  simp only
  rw [pNum_put h3]
  simp only [(toNat_of hkf).1, (toNat_of h1).1, (toNat_of h2).1, (toNat_of h3).1]
  rfl
theorem pHead_get {b r : List UInt8} {m : Msg} (h : pHead zeroM b = some (m, r)) : b = numsB [m.kind, m.call, m.src, m.dst] ++ r ∧ m = m.empty := by
  unfold pHead at h
  split at h
  · cases h
  rename_i k b1 h1
  split at h
  · cases h
  split at h
  · cases h
  rename_i c b2 h2
  split at h
  · cases h
  rename_i s b3 h3
  split at h
  · cases h
  rename_i d b4 h4
  simp only [Option.some.injEq, Prod.mk.injEq] at h
  obtain ⟨rfl, rfl⟩ := h
  refine ⟨?_, rfl⟩
  rw [(pNum_iff.1 h1).1, (pNum_iff.1 h2).1, (pNum_iff.1 h3).1, (pNum_iff.1 h4).1]
  simp [numsB]
theorem pMore_put (m : Msg) (h : m.right = true) : pMore m.empty (moreB m) = some (m, []) := by
  obtain ⟨_, _, _, _, hb, hh⟩ := right_t h
  clear h
  obtain ⟨k, c, s, d, ky, sl, dn, pl, pr, l, ⟨ik, iv, ir, ig⟩, co⟩ := m
  unfold pMore moreB
  simp only [Msg.empty] at hb ⊢
  unfold Msg.bare Msg.has at *
  simp only at hb hh
  by_cases h4 : k = 4
  · subst h4
    simp only [if_true, Msg.mk.injEq, zeroI, Item.mk.injEq] at hb hh ⊢
    rw [show numsB [ky, bitI sl] = numsB [ky] ++ (numsB [bitI sl] ++ []) by simp [numsB], pNum_put (fits_pl hh)]
    simp only
    rw [pFlag_put]
    simp only [(toNat_of (fits_pl hh)).1]
    simp_all
  by_cases h5 : k = 5
  · subst h5
    simp only [Int.reduceEq, if_false, if_true, Msg.mk.injEq, zeroI, Item.mk.injEq] at hb hh ⊢
    obtain ⟨a1, a2, a3⟩ := itOK_t hh
    rw [show pairB ⟨ik, iv, ir, ig⟩ = pairB ⟨ik, iv, ir, ig⟩ ++ [] by simp, pPair_put _ a1 a2 a3]
    simp_all
  by_cases h6 : k = 6
  · subst h6
    simp only [Int.reduceEq, if_false, if_true, Msg.mk.injEq, zeroI, Item.mk.injEq, Bool.and_eq_true, decide_eq_true_eq] at hb hh ⊢
    obtain ⟨a1, a2, a3⟩ := itOK_t hh.1
    rw [show textB ik = textB ik ++ [] by simp, pText_iff.2 ⟨rfl, a1⟩]
    simp_all
  by_cases h7 : k = 7
  · subst h7
    simp only [Int.reduceEq, if_false, if_true, Msg.mk.injEq, zeroI, Item.mk.injEq, Bool.and_eq_true, Bool.or_eq_true, decide_eq_true_eq] at hb hh ⊢
    obtain ⟨b1, b2⟩ := okList_t hh.2
    have hf : fits (pr + 1) = true := by
      rcases hh.1 with h | h
      · subst h; rfl
      · exact fits_of (by have := plB_t h; omega)
    rw [pNum_put hf]
    simp only
    rw [show UInt8.ofNat l.length :: numsB l = (UInt8.ofNat l.length :: numsB l) ++ [] by simp, pList_iff.2 ⟨rfl, by omega, b2⟩]
    simp only [(toNat_of hf).1]
    have : pr + 1 - 1 = pr := by omega
    simp_all
  by_cases h10 : k = 10
  · subst h10
    simp only [Int.reduceEq, if_false, if_true, Msg.mk.injEq, zeroI, Item.mk.injEq] at hb hh ⊢
    rw [show numsB [pl, bitI dn] = numsB [pl] ++ (numsB [bitI dn] ++ []) by simp [numsB], pNum_put (fits_pl hh)]
    simp only
    rw [pFlag_put]
    simp only [(toNat_of (fits_pl hh)).1]
    simp_all
  by_cases h11 : k = 11
  · subst h11
    simp only [Int.reduceEq, if_false, if_true, Msg.mk.injEq, zeroI, Item.mk.injEq, Bool.or_eq_true, decide_eq_true_eq] at hb hh ⊢
    have hf : fits co = true := by rcases hh with h | h <;> rw [h] <;> rfl
    rw [show numsB [co] = numsB [co] ++ [] by simp, pNum_put hf]
    simp only [(toNat_of hf).1]
    simp_all
  by_cases h12 : k = 12
  · subst h12
    simp only [Int.reduceEq, if_false, if_true, Msg.mk.injEq, zeroI, Item.mk.injEq, Bool.or_eq_true, Bool.and_eq_true, decide_eq_true_eq] at hb hh ⊢
    rcases hh with ⟨h0, h1⟩ | ⟨h0, h1⟩
    · subst h0
      obtain ⟨a1, a2, a3⟩ := itOK_t h1
      rw [pNum_put rfl]
      simp only [if_true]
      rw [show pairB ⟨ik, iv, ir, ig⟩ = pairB ⟨ik, iv, ir, ig⟩ ++ [] by simp]
      simp only [show Int.toNat 0 = 0 from rfl, if_true]
      rw [pPair_put _ a1 a2 a3]
      simp_all
    · subst h0
      rw [pNum_put rfl]
      simp_all
  simp only [h4, h5, h6, h7, h10, h11, h12, if_false, Msg.mk.injEq] at hb ⊢
  simp_all
theorem pMore_get {m m' : Msg} {b r : List UInt8} (h : pMore m b = some (m', r)) : b = moreB m' ++ r ∧ m'.kind = m.kind ∧ m'.call = m.call ∧ m'.src = m.src ∧ m'.dst = m.dst := by
  unfold pMore at h
  by_cases h4 : m.kind = 4
  · rw [if_pos h4] at h
    split at h
    · cases h
    rename_i n b1 h1
    split at h
    · cases h
    rename_i g b2 h2
    simp only [Option.some.injEq, Prod.mk.injEq] at h
    obtain ⟨rfl, rfl⟩ := h
    refine ⟨?_, rfl, rfl, rfl, rfl⟩
    rw [(pNum_iff.1 h1).1, pFlag_iff.1 h2]
    simp [moreB, h4, numsB, bit_nat]
  rw [if_neg h4] at h
  by_cases h5 : m.kind = 5
  · rw [if_pos h5] at h
    split at h
    · cases h
    rename_i x b1 h1
    simp only [Option.some.injEq, Prod.mk.injEq] at h
    obtain ⟨rfl, rfl⟩ := h
    refine ⟨?_, rfl, rfl, rfl, rfl⟩
    rw [pPair_get h1]
    simp [moreB, h5]
  rw [if_neg h5] at h
  by_cases h6 : m.kind = 6
  · rw [if_pos h6] at h
    split at h
    · cases h
    rename_i x b1 h1
    simp only [Option.some.injEq, Prod.mk.injEq] at h
    obtain ⟨rfl, rfl⟩ := h
    refine ⟨?_, rfl, rfl, rfl, rfl⟩
    rw [(pText_iff.1 h1).1]
    simp [moreB, h6]
  rw [if_neg h6] at h
  by_cases h7 : m.kind = 7
  · rw [if_pos h7] at h
    split at h
    · cases h
    rename_i n b1 h1
    split at h
    · cases h
    rename_i l b2 h2
    simp only [Option.some.injEq, Prod.mk.injEq] at h
    obtain ⟨rfl, rfl⟩ := h
    refine ⟨?_, rfl, rfl, rfl, rfl⟩
    have e : ((n : Int) - 1 + 1).toNat = n := by omega
    rw [(pNum_iff.1 h1).1, (pList_iff.1 h2).1]
    simp [moreB, h7, numsB, e]
  rw [if_neg h7] at h
  by_cases h10 : m.kind = 10
  · rw [if_pos h10] at h
    split at h
    · cases h
    rename_i n b1 h1
    split at h
    · cases h
    rename_i g b2 h2
    simp only [Option.some.injEq, Prod.mk.injEq] at h
    obtain ⟨rfl, rfl⟩ := h
    refine ⟨?_, rfl, rfl, rfl, rfl⟩
    rw [(pNum_iff.1 h1).1, pFlag_iff.1 h2]
    simp [moreB, h10, numsB, bit_nat]
  rw [if_neg h10] at h
  by_cases h11 : m.kind = 11
  · rw [if_pos h11] at h
    split at h
    · cases h
    rename_i n b1 h1
    simp only [Option.some.injEq, Prod.mk.injEq] at h
    obtain ⟨rfl, rfl⟩ := h
    refine ⟨?_, rfl, rfl, rfl, rfl⟩
    rw [(pNum_iff.1 h1).1]
    simp [moreB, h11, numsB]
  rw [if_neg h11] at h
  by_cases h12 : m.kind = 12
  · rw [if_pos h12] at h
    split at h
    · cases h
    rename_i n b1 h1
    split at h
    · rename_i hn
      subst hn
      split at h
      · cases h
      rename_i x b2 h2
      simp only [Option.some.injEq, Prod.mk.injEq] at h
      obtain ⟨rfl, rfl⟩ := h
      refine ⟨?_, rfl, rfl, rfl, rfl⟩
      rw [(pNum_iff.1 h1).1, pPair_get h2]
      simp [moreB, h12, numsB]
    · rename_i hn
      simp only [Option.some.injEq, Prod.mk.injEq] at h
      obtain ⟨rfl, rfl⟩ := h
      refine ⟨?_, rfl, rfl, rfl, rfl⟩
      rw [(pNum_iff.1 h1).1]
      simp [moreB, h12, numsB, hn]
  rw [if_neg h12] at h
  simp only [Option.some.injEq, Prod.mk.injEq] at h
  obtain ⟨rfl, rfl⟩ := h
  refine ⟨?_, rfl, rfl, rfl, rfl⟩
  simp [moreB, h4, h5, h6, h7, h10, h11, h12]

/-! ### How many bytes -/
theorem size_below {n k : Nat} (h : n < 256 ^ k) : size n ≤ k := by
  rcases Nat.lt_or_ge k (size n) with h2 | h2
  · have := size_pos.2 h2
    rw [Nat.div_eq_of_lt h] at this
    omega
  · exact h2
theorem numB_below {n : Int} (k : Nat) (h : n < ((256 ^ k : Nat) : Int)) : (numB n.toNat).length ≤ k + 1 := by
  have : size n.toNat ≤ k := by
    rcases Nat.eq_zero_or_pos n.toNat with h0 | h0
    · rw [h0]; exact Nat.le_trans (by decide) (Nat.zero_le k)
    · exact size_below (by omega)
  simp [numB, digs]; omega
theorem pairB_len {x : Item} (h : itOK x = true) : (pairB x).length ≤ 31 := by
  simp only [itOK, Bool.and_eq_true, isVal, isKy, decide_eq_true_eq] at h
  obtain ⟨⟨⟨h1, h2⟩, ⟨h3, h4⟩⟩, ⟨h5, h6⟩⟩ := h
  have a1 := numB_below (n := x.value) 3 (by omega)
  have a2 := numB_below (n := x.version) 3 (by omega)
  have a3 := numB_below (n := bitI x.gone) 1 (by cases x.gone <;> decide)
  simp only [pairB, textB, numsB, List.length_append, List.length_cons, List.length_nil]
  omega
theorem moreB_len {m : Msg} (h : m.right = true) : (moreB m).length ≤ 32 := by
  obtain ⟨_, _, _, _, _, hh⟩ := right_t h
  unfold moreB
  unfold Msg.has at hh
  by_cases h4 : m.kind = 4
  · rw [if_pos h4] at hh ⊢
    have := plB_t hh
    have a1 := numB_below (n := m.key) 2 (by omega)
    have a3 := numB_below (n := bitI m.slow) 1 (by cases m.slow <;> decide)
    simp only [numsB, List.length_append, List.length_nil]; omega
  rw [if_neg h4] at hh ⊢
  by_cases h5 : m.kind = 5
  · rw [if_pos h5] at hh ⊢
    have := pairB_len hh; omega
  rw [if_neg h5] at hh ⊢
  by_cases h6 : m.kind = 6
  · rw [if_pos h6] at hh ⊢
    simp only [Bool.and_eq_true] at hh
    have := hh.1
    simp only [itOK, isKy, Bool.and_eq_true, decide_eq_true_eq] at this
    simp only [textB, List.length_cons]; omega
  rw [if_neg h6] at hh ⊢
  by_cases h7 : m.kind = 7
  · rw [if_pos h7] at hh ⊢
    simp only [Bool.and_eq_true, Bool.or_eq_true, decide_eq_true_eq] at hh
    have hp : m.pred + 1 < 16777216 := by
      rcases hh.1 with h | h
      · omega
      · have := plB_t h; omega
    have a1 := numB_below (n := m.pred + 1) 3 (by omega)
    have hL := okList_t hh.2
    have hall : ∀ l : List Int, okRow m.src l = true → (numsB l).length ≤ 3 * l.length := by
      intro l
      induction l with
      | nil => simp [numsB]
      | cons x r ih =>
        intro hr
        simp only [okRow, List.all_cons, Bool.and_eq_true] at hr
        have := plB_t hr.1.1
        have a2 := numB_below (n := x) 2 (by omega)
        have := ih hr.2
        simp only [numsB, List.length_append, List.length_cons]; omega
    have h2 := hh.2
    simp only [okList, Bool.and_eq_true] at h2
    have := hall m.list h2.1.1
    simp only [numsB, List.length_append, List.length_nil, List.length_cons]; omega
  rw [if_neg h7] at hh ⊢
  by_cases h10 : m.kind = 10
  · rw [if_pos h10] at hh ⊢
    have := plB_t hh
    have a1 := numB_below (n := m.place) 2 (by omega)
    have a3 := numB_below (n := bitI m.done) 1 (by cases m.done <;> decide)
    simp only [numsB, List.length_append, List.length_nil]; omega
  rw [if_neg h10] at hh ⊢
  by_cases h11 : m.kind = 11
  · rw [if_pos h11] at hh ⊢
    simp only [Bool.or_eq_true, decide_eq_true_eq] at hh
    have a1 := numB_below (n := m.code) 1 (by rcases hh with h | h <;> rw [h] <;> decide)
    simp only [numsB, List.length_append, List.length_nil]; omega
  rw [if_neg h11] at hh ⊢
  by_cases h12 : m.kind = 12
  · rw [if_pos h12] at hh ⊢
    simp only [Bool.or_eq_true, Bool.and_eq_true, decide_eq_true_eq] at hh
    rcases hh with ⟨h0, h1⟩ | ⟨h0, h1⟩
    · have := pairB_len h1
      rw [if_pos h0, h0]
      have e : (numsB [0]).length = 1 := by decide
      simp only [List.length_append]; omega
    · rw [if_neg (by omega), h0]
      decide
  rw [if_neg h12]
  simp
theorem payB_len {m : Msg} (h : m.right = true) : (payB m).length ≤ 46 := by
  have hm := moreB_len h
  obtain ⟨⟨h1, h2⟩, ⟨h3, h4⟩, _, ⟨h5, h6⟩, _, _⟩ := right_t h
  have ha := asker_b h
  have := plB_t h3
  have := plB_t h4
  have a1 := numB_below (n := m.kind) 1 (by omega)
  have a2 := numB_below (n := m.call) 5 (by omega)
  have a3 := numB_below (n := m.src) 2 (by omega)
  have a4 := numB_below (n := m.dst) 2 (by omega)
  simp only [payB, numsB, List.length_append, List.length_nil]
  omega

/-! ### The laws -/
theorem read_put {m : Msg} (h : m.right = true) : readS (payB m) = (m, 0) := by
  have hl := payB_len h
  obtain ⟨⟨h1, h2⟩, ⟨h3, h4⟩, _, ⟨h5, h6⟩, _, _⟩ := right_t h
  have ha := asker_b h
  unfold readS
  rw [if_neg (by omega)]
  unfold payB
  rw [pHead_put m ⟨by omega, h2⟩ (fits_of (by omega)) (fits_pl h3) (fits_pl h4)]
  simp only [pMore_put m h, h, and_self, if_true]
theorem read_get {b : List UInt8} {m : Msg} {e : Int} (h : readS b = (m, e)) : (e = 0 ∧ m.right = true ∧ payB m = b) ∨ (e = 12 ∧ m = zeroM) := by
  unfold readS at h
  split at h
  · cases h; exact .inr ⟨rfl, rfl⟩
  split at h
  · cases h; exact .inr ⟨rfl, rfl⟩
  rename_i m1 r h1
  split at h
  · cases h; exact .inr ⟨rfl, rfl⟩
  rename_i m2 r2 h2
  split at h
  · rename_i h3
    cases h
    refine .inl ⟨rfl, h3.2, ?_⟩
    obtain ⟨e1, e2⟩ := pHead_get h1
    obtain ⟨g1, g2, g3, g4, g5⟩ := pMore_get h2
    unfold payB
    rw [g2, g3, g4, g5, e1, g1, h3.1, List.append_nil]
  · cases h; exact .inr ⟨rfl, rfl⟩
end Wi
end Go.Proofs.YtbpemnmpcljbpaaGreat
