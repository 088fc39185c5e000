/- Written by a program (pre.py) from the source of the same name. -/
/- Numbers: plain law: texts and lists. -/
import Derived.Test.YtbpemnmpcljbpaaGreatNum9
set_option linter.unusedSimpArgs false
set_option linter.unusedVariables false
set_option linter.unnecessarySimpa false
namespace Go.Proofs.YtbpemnmpcljbpaaGreat
open Go.Gar

theorem takesS_len : ∀ (k : Nat) (r : List UInt8) (acc : List Int), (takesS k r acc).1.length ≤ acc.length + k
  | 0, r, acc => by simp [takesS]
  | k + 1, r, acc => by
    simp only [takesS]
    split
    · have := takesS_len k (takeS r).2.1 (acc ++ [((takeS r).1 : Int)])
      simp only [List.length_append, List.length_cons, List.length_nil] at this
      omega
    · simp
theorem takeListS_len (b : List UInt8) : (takeListS b).1.length ≤ 255 := by
  rcases b with _ | ⟨m, r⟩
  · simp [takeListS]
  · have h1 := takesS_len m.toNat r []
    have h2 := m.toNat_lt
    simp only [takeListS]
    simp only [List.length_nil] at h1
    omega
theorem text_back (s r : List UInt8) (h : s.length ≤ 255) : takeTextS (UInt8.ofNat s.length :: s ++ r) = (s, r, 0) := by
  have hm : (UInt8.ofNat s.length).toNat = s.length := by rw [UInt8.toNat_ofNat']; omega
  simp only [List.cons_append, takeTextS, hm]
  rw [if_neg (by simp)]
  simp
theorem list_back_acc (r : List UInt8) : ∀ (l : List Int) (acc : List Int), l.all fits = true → takesS l.length (numsB l ++ r) acc = (acc ++ l, r, 0)
  | [], acc, _ => by simp [takesS, numsB]
  | n :: l, acc, h => by
    simp only [List.all_cons, Bool.and_eq_true] at h
    obtain ⟨m, rfl, hm⟩ := fits_nat h.1
    simp only [List.length_cons, takesS, numsB, Int.toNat_natCast, List.append_assoc, take_numB m _ hm, if_true]
    rw [list_back_acc r l _ h.2]
    simp
theorem list_back (l : List Int) (r : List UInt8) (h : l.length ≤ 255) (hf : l.all fits = true) : takeListS (UInt8.ofNat l.length :: numsB l ++ r) = (l, r, 0) := by
  have hm : (UInt8.ofNat l.length).toNat = l.length := by rw [UInt8.toNat_ofNat']; omega
  simp only [List.cons_append, takeListS, hm]
  rw [list_back_acc r l [] hf]
  simp
theorem takeS_cases (b : List UInt8) : (∃ n r, takeS b = (n, r, 0) ∧ b = numB n ++ r ∧ n ≤ 1099511627776) ∨ takeS b = (0, [], 11) ∨ takeS b = (0, [], 12) := by
  rcases hb : takeS b with ⟨n, r, e⟩
  by_cases he : e = 0
  · subst he
    obtain ⟨h1, h2⟩ := numB_take hb
    exact .inl ⟨n, r, rfl, h1, h2⟩
  · right
    rcases b with _ | ⟨m, l⟩
    · simp [takeS] at hb; simp [← hb.1, ← hb.2.1, ← hb.2.2]
    · simp only [takeS] at hb
      split at hb
      · simp at hb; simp [← hb.1, ← hb.2.1, ← hb.2.2]
      · split at hb
        · simp at hb; simp [← hb.1, ← hb.2.1, ← hb.2.2]
        · split at hb
          · simp at hb; simp [← hb.1, ← hb.2.1, ← hb.2.2]
          · simp at hb; exact absurd hb.2.2.symm he
theorem takeTextS_cases (b : List UInt8) : (∃ s r, takeTextS b = (s, r, 0) ∧ b = UInt8.ofNat s.length :: s ++ r ∧ s.length ≤ 255) ∨ takeTextS b = ([], [], 11) := by
  rcases b with _ | ⟨m, l⟩
  · exact .inr rfl
  · have hm := m.toNat_lt
    simp only [takeTextS]
    by_cases h : l.length < m.toNat
    · rw [if_pos h]; exact .inr rfl
    · rw [if_neg h]
      have hl : (l.take m.toNat).length = m.toNat := by simp; omega
      refine .inl ⟨_, _, rfl, ?_, by omega⟩
      rw [hl, List.cons_append, List.take_append_drop]
      congr 1
      apply UInt8.toNat_inj.1
      rw [UInt8.toNat_ofNat']; omega
theorem takesS_only : ∀ (k : Nat) (b : List UInt8) (acc : List Int), (∃ l r, takesS k b acc = (acc ++ l, r, 0) ∧ b = numsB l ++ r ∧ l.length = k ∧ l.all fits = true) ∨ ∃ e, takesS k b acc = ([], [], e) ∧ e ≠ 0
  | 0, b, acc => .inl ⟨[], b, by simp [takesS], by simp [numsB], rfl, rfl⟩
  | k + 1, b, acc => by
    simp only [takesS]
    rcases takeS_cases b with ⟨n, r, h, hb, hn⟩ | h | h
    · rw [h]
      simp only [if_true]
      rcases takesS_only k r (acc ++ [(n : Int)]) with ⟨l, r', h1, h2, h3, h4⟩ | ⟨e, h1, h2⟩
      · refine .inl ⟨(n : Int) :: l, r', by rw [h1]; simp, ?_, by simp [h3], ?_⟩
        · rw [hb, h2]; simp [numsB]
        · have hf : fits (n : Int) = true := by simp [fits]; omega
          simp only [List.all_cons, hf, h4, Bool.and_self]
      · exact .inr ⟨e, h1, h2⟩
    · rw [h]; exact .inr ⟨11, by simp, by decide⟩
    · rw [h]; exact .inr ⟨12, by simp, by decide⟩
theorem takeListS_cases (b : List UInt8) : (∃ l r, takeListS b = (l, r, 0) ∧ b = UInt8.ofNat l.length :: numsB l ++ r ∧ l.length ≤ 255 ∧ l.all fits = true) ∨ ∃ e, takeListS b = ([], [], e) ∧ e ≠ 0 := by
  rcases b with _ | ⟨m, q⟩
  · exact .inr ⟨11, rfl, by decide⟩
  · have hm := m.toNat_lt
    simp only [takeListS]
    rcases takesS_only m.toNat q [] with ⟨l, r', h1, h2, h3, h4⟩ | ⟨e, h1, h2⟩
    · refine .inl ⟨l, r', by rw [h1]; simp, ?_, by omega, h4⟩
      rw [List.cons_append, ← h2, h3]
      congr 1
      apply UInt8.toNat_inj.1
      rw [UInt8.toNat_ofNat']; omega
    · exact .inr ⟨e, h1, h2⟩
end Go.Proofs.YtbpemnmpcljbpaaGreat
