/- Written by a program (pre.py) from the source of the same name. -/
/- What the document reads, plain: it is what the program reads. -/
import Derived.Test.YtbpemnmpcljbpaaGreatWire3C
import Derived.Test.YtbpemnmpcljbpaaGreatFwE
set_option linter.unusedSimpArgs false
set_option linter.unusedVariables false
set_option linter.unnecessarySimpa false
namespace Go.Proofs.YtbpemnmpcljbpaaGreat
namespace Wi
open Go.Gar
set_option maxRecDepth 4000

theorem numsP_put : ∀ (l : List Int) (r : List UInt8), l.all fits = true → numsP l.length (numsB l ++ r) = some (l, r)
  | [], r, _ => rfl
  | n :: l, r, h => by
    simp only [List.all_cons, Bool.and_eq_true] at h
    have e : numsB (n :: l) ++ r = numsB [n] ++ (numsB l ++ r) := by simp [numsB]
    rw [List.length_cons, numsP, e, pNum_put h.1]
    simp only
    rw [numsP_put l r h.2]
    simp only [(toNat_of h.1).1]
theorem bit_back (g : Bool) : (bitI g == 1) = g := by cases g <;> rfl
theorem pairedS_put (x : Item) (hk : x.key.length ≤ 255) (hv : fits x.value = true) (hn : fits x.version = true) : pairedS (pairB x) = (x, true) := by
  obtain ⟨k, v, n, g⟩ := x
  have ht : takeTextS (pairB ⟨k, v, n, g⟩) = (k, numsB [v, n, bitI g], 0) := by
    rw [show pairB ⟨k, v, n, g⟩ = UInt8.ofNat k.length :: k ++ numsB [v, n, bitI g] by simp [pairB_eq, textB, numsB]]
    exact text_back k _ hk
  have hp : numsP 3 (numsB [v, n, bitI g]) = some ([v, n, bitI g], []) := by
    have := numsP_put [v, n, bitI g] [] (by simp only [List.all_cons, List.all_nil, hv, hn, fits_bit, Bool.and_self])
    rw [List.append_nil] at this
    exact this
  unfold pairedS
  rw [ht]
  simp only [hp, if_true, bit_back]
theorem moreS_put (m : Msg) (h : m.right = true) : moreS m.empty (moreB m) = (m, true) := by
  obtain ⟨_, _, _, _, hb, hh⟩ := right_t h
  clear h
  obtain ⟨k, c, s, d, ky, sl, dn, pl, pr, l, ⟨ik, iv, ir, ig⟩, co⟩ := m
  unfold moreS moreB
  simp only [Msg.empty] at hb ⊢
  unfold Msg.bare Msg.has at *
  simp only at hb hh
  by_cases h4 : k = 4
  · subst h4
    simp only [if_true, Msg.mk.injEq, zeroI, Item.mk.injEq] at hb hh ⊢
    have hp : numsP 2 (numsB [ky, bitI sl]) = some ([ky, bitI sl], []) := by
      have := numsP_put [ky, bitI sl] [] (by simp only [List.all_cons, List.all_nil, fits_pl hh, fits_bit, Bool.and_self])
      rw [List.append_nil] at this
      exact this
    simp only [manyS, if_true, hp, List.getD_cons_zero, List.getD_cons_succ, bit_back]
    simp_all
  by_cases h5 : k = 5
  · subst h5
    simp only [Int.reduceEq, if_false, if_true, Msg.mk.injEq, zeroI, Item.mk.injEq] at hb hh ⊢
    obtain ⟨a1, a2, a3⟩ := itOK_t hh
    simp only [manyS, Int.reduceEq, if_false, numsP, pairedS_put _ a1 a2 a3]
    simp_all
  by_cases h6 : k = 6
  · subst h6
    simp only [Int.reduceEq, if_false, if_true, Msg.mk.injEq, zeroI, Item.mk.injEq, Bool.and_eq_true, decide_eq_true_eq] at hb hh ⊢
    obtain ⟨a1, a2, a3⟩ := itOK_t hh.1
    have ht : takeTextS (textB ik) = (ik, [], 0) := by
      have := text_back ik [] a1
      rw [List.append_nil] at this
      exact this
    simp only [manyS, Int.reduceEq, if_false, numsP, ht]
    simp_all
  by_cases h7 : k = 7
  · subst h7
    simp only [Int.reduceEq, if_false, if_true, Msg.mk.injEq, zeroI, Item.mk.injEq, Bool.and_eq_true, Bool.or_eq_true, decide_eq_true_eq] at hb hh ⊢
    obtain ⟨b1, b2⟩ := okList_t hh.2
    have hf : fits (pr + 1) = true := by
      rcases hh.1 with h | h
      · subst h; rfl
      · exact fits_of (by have := plB_t h; omega)
    have hp : numsP 1 (numsB [pr + 1] ++ UInt8.ofNat l.length :: numsB l) = some ([pr + 1], UInt8.ofNat l.length :: numsB l) := numsP_put [pr + 1] _ (by simp only [List.all_cons, List.all_nil, hf, Bool.and_self])
    have ht : takeListS (UInt8.ofNat l.length :: numsB l) = (l, [], 0) := by
      have := list_back l [] (by omega) b2
      rw [List.append_nil] at this
      exact this
    have e1 : pr + 1 - 1 = pr := by omega
    simp only [manyS, Int.reduceEq, if_false, if_true, hp, ht, List.getD_cons_zero, e1]
    simp_all
  by_cases h10 : k = 10
  · subst h10
    simp only [Int.reduceEq, if_false, if_true, Msg.mk.injEq, zeroI, Item.mk.injEq] at hb hh ⊢
    have hp : numsP 2 (numsB [pl, bitI dn]) = some ([pl, bitI dn], []) := by
      have := numsP_put [pl, bitI dn] [] (by simp only [List.all_cons, List.all_nil, fits_pl hh, fits_bit, Bool.and_self])
      rw [List.append_nil] at this
      exact this
    simp only [manyS, Int.reduceEq, if_false, if_true, hp, List.getD_cons_zero, List.getD_cons_succ, bit_back]
    simp_all
  by_cases h11 : k = 11
  · subst h11
    simp only [Int.reduceEq, if_false, if_true, Msg.mk.injEq, zeroI, Item.mk.injEq, Bool.or_eq_true, decide_eq_true_eq] at hb hh ⊢
    have hf : fits co = true := by rcases hh with h | h <;> rw [h] <;> rfl
    have hp : numsP 1 (numsB [co]) = some ([co], []) := by
      have := numsP_put [co] [] (by simp only [List.all_cons, List.all_nil, hf, Bool.and_self])
      rw [List.append_nil] at this
      exact this
    simp only [manyS, Int.reduceEq, if_false, if_true, hp, List.getD_cons_zero]
    simp_all
  by_cases h12 : k = 12
  · subst h12
    simp only [Int.reduceEq, if_false, if_true, Msg.mk.injEq, zeroI, Item.mk.injEq, Bool.or_eq_true, Bool.and_eq_true, decide_eq_true_eq] at hb hh ⊢
    rcases hh with ⟨h0, h1⟩ | ⟨h0, h1⟩
    · subst h0
      obtain ⟨a1, a2, a3⟩ := itOK_t h1
      have hp : numsP 1 (numsB [0] ++ pairB ⟨ik, iv, ir, ig⟩) = some ([0], pairB ⟨ik, iv, ir, ig⟩) := numsP_put [0] _ rfl
      simp only [manyS, Int.reduceEq, if_false, if_true, hp, List.getD_cons_zero, pairedS_put _ a1 a2 a3]
      simp_all
    · subst h0
      have hp : numsP 1 (numsB [201]) = some ([201], []) := numsP_put [201] [] rfl
      simp only [manyS, Int.reduceEq, if_false, if_true, hp, List.getD_cons_zero, List.append_nil]
      simp_all
  simp only [h4, h5, h6, h7, h10, h11, h12, if_false, Msg.mk.injEq, manyS, numsP] at hb ⊢
  simp_all
theorem moreS_list (m : Msg) (b : List UInt8) (h : m.list.length ≤ 255) : (moreS m b).1.list.length ≤ 255 := by
  unfold moreS
  split
  · exact h
  · repeat' split
    all_goals first | exact h | exact takeListS_len _

/-! ### Read -/
def readR (b : List UInt8) : Msg × Int := match numsP 4 b with
  | some ([k, c, s, d], r) => if k ≥ 13 then (zeroM, 12) else
    if (moreS ⟨k, c, s, d, 0, false, false, 0, 0, [], zeroI, 0⟩ r).2 = true ∧ (moreS ⟨k, c, s, d, 0, false, false, 0, 0, [], zeroI, 0⟩ r).1.right = true ∧ payB (moreS ⟨k, c, s, d, 0, false, false, 0, 0, [], zeroI, 0⟩ r).1 = b
    then ((moreS ⟨k, c, s, d, 0, false, false, 0, 0, [], zeroI, 0⟩ r).1, 0) else (zeroM, 12)
  | _ => (zeroM, 12)
theorem readR_cases (b : List UInt8) : (∃ m, readR b = (m, 0) ∧ m.right = true ∧ payB m = b) ∨ readR b = (zeroM, 12) := by
  unfold readR
  split
  · split
    · exact .inr rfl
    · split
      · rename_i h
        exact .inl ⟨_, rfl, h.2.1, h.2.2⟩
      · exact .inr rfl
  · exact .inr rfl
theorem readR_put {m : Msg} (h : m.right = true) : readR (payB m) = (m, 0) := by
  obtain ⟨⟨k1, k2⟩, ⟨p1, p2⟩, _, ⟨c1, c2⟩, hb, hh⟩ := right_t h
  have ha := asker_b h
  have fk : fits m.kind = true := fits_of (by omega)
  have fc : fits m.call = true := fits_of (by omega)
  have hp : numsP 4 (payB m) = some ([m.kind, m.call, m.src, m.dst], moreB m) := numsP_put [m.kind, m.call, m.src, m.dst] (moreB m) (by simp only [List.all_cons, List.all_nil, fk, fc, fits_pl p1, fits_pl p2, Bool.and_self])
  have hm := moreS_put m h
  unfold Msg.empty at hm
  unfold readR
  rw [hp]
  simp only [hm]
  rw [if_neg (by omega), if_pos (And.intro trivial (And.intro h trivial))]
theorem readR_eq (b : List UInt8) : readR b = readS b := by
  rcases readR_cases b with ⟨m, h1, h2, h3⟩ | h1
  · rw [h1, ← h3, read_put h2]
  · obtain ⟨m, e, h⟩ : ∃ m e, readS b = (m, e) := ⟨_, _, rfl⟩
    rcases read_get h with ⟨h2, h3, h4⟩ | ⟨h2, h3⟩
    · have := readR_put h3
      rw [h4, h1] at this
      simp at this
    · rw [h1, h, h2, h3]
def openR (b : List UInt8) : List UInt8 × Int := if b.length < 8 then ([], 11) else
  if (closeV ((b.take (b.length - 4)).drop 4)).2 = 0 ∧ (closeV ((b.take (b.length - 4)).drop 4)).1 = b then ((b.take (b.length - 4)).drop 4, 0) else ([], 12)
theorem closeV_le {p : List UInt8} (h : (closeV p).2 = 0) : p.length ≤ 112 := by
  unfold closeV at h
  split at h
  · simp at h
  · omega
theorem openR_eq (b : List UInt8) : openR b = openC b := by
  obtain ⟨p, e, h⟩ : ∃ p e, openC b = (p, e) := ⟨_, _, rfl⟩
  unfold openR
  rcases open_get h with ⟨h1, h2, h3⟩ | ⟨h1, h2, h3⟩ | ⟨h1, h2, h3⟩
  · subst h1
    have hb := h3
    rw [closeV_ok h2] at hb
    simp only at hb
    have hl : b.length = p.length + 8 := by rw [← hb]; simp [hdr_len, be4_len]; omega
    have e : (b.take (b.length - 4)).drop 4 = p := by
      rw [hl, ← hb, List.append_assoc, show p.length + 8 - 4 = (hdr p.length).length + p.length by rw [hdr_len]; omega, List.take_append, List.drop_append]
      simp [hdr_len]
    rw [if_neg (by omega), e, if_pos ⟨by rw [closeV_ok h2], h3⟩, h]
  · rw [if_pos h2, h, h1, h3]
  · rw [if_neg (by omega), if_neg, h, h1, h3]
    rintro ⟨a, c⟩
    have := open_close (closeV_le a)
    rw [c, h, h1] at this
    simp at this
end Wi
end Go.Proofs.YtbpemnmpcljbpaaGreat
