/- Written by a program (pre.py) from the source of the same name. -/
/- Numbers: plain law: what is put is taken, what is taken was put, order. -/
import Derived.Test.YtbpemnmpcljbpaaGreatNum7
set_option linter.unusedSimpArgs false
set_option linter.unusedVariables false
set_option linter.unnecessarySimpa false
namespace Go.Proofs.YtbpemnmpcljbpaaGreat
open Go.Gar

theorem valB_from (l : List UInt8) (a : Nat) : l.foldl (fun a d => a * 256 + d.toNat) a = a * 256 ^ l.length + valB l := by
  induction l generalizing a with
  | nil => simp [valB]
  | cons d r ih =>
    have e : valB (d :: r) = d.toNat * 256 ^ r.length + valB r := by
      show r.foldl _ (0 * 256 + d.toNat) = _
      rw [ih]; simp
    simp only [List.foldl_cons, List.length_cons]
    rw [ih, e, Nat.pow_succ, Nat.add_mul, Nat.mul_assoc, Nat.mul_comm 256, Nat.add_assoc]
theorem valB_cons (d : UInt8) (l : List UInt8) : valB (d :: l) = d.toNat * 256 ^ l.length + valB l := by
  show l.foldl _ (0 * 256 + d.toNat) = _
  rw [valB_from]; simp
theorem dig_nat (n i : Nat) : (dig n i).toNat = n / 256 ^ i % 256 := by
  simp [dig]
theorem lowd_len (n k : Nat) : (lowd n k).length = k := by simp [lowd]
theorem valB_lowd (n k : Nat) : valB (lowd n k) = n % 256 ^ k := by
  induction k with
  | zero => simp [lowd, valB, Nat.mod_one]
  | succ k ih =>
    rw [lowd_succ, valB_cons, ih, lowd_len, dig_nat, Nat.pow_succ, Nat.mod_mul]
    rw [Nat.mul_comm, Nat.add_comm]
theorem size_lt (n : Nat) : n < 256 ^ size n := by
  have h := (size_pos (n := n) (k := size n))
  have h0 : n / 256 ^ size n = 0 := Nat.eq_zero_of_not_pos (fun h1 => absurd (h.1 h1) (Nat.lt_irrefl _))
  have hp : 0 < 256 ^ size n := Nat.pow_pos (by decide)
  rcases (Nat.div_eq_zero_iff).1 h0 with h1 | h1
  · omega
  · exact h1
theorem digs_eq (n : Nat) : digs n = lowd n (size n) := rfl
theorem valB_digs (n : Nat) : valB (digs n) = n := by
  rw [digs_eq, valB_lowd, Nat.mod_eq_of_lt (size_lt n)]
theorem digs_len (n : Nat) : (digs n).length = size n := lowd_len _ _
theorem digs_head (n : Nat) (h : 0 < size n) : (digs n).getD 0 0 ≠ 0 := by
  obtain ⟨k, hk⟩ : ∃ k, size n = k + 1 := ⟨size n - 1, by omega⟩
  rw [digs_eq, hk, lowd_succ]
  intro e
  have e' := congrArg UInt8.toNat e
  simp only [List.getD_cons_zero, dig_nat, UInt8.toNat_zero] at e'
  have h1 := (size_pos (n := n) (k := k)).2 (by omega)
  have h2 := size_lt n
  rw [hk, Nat.pow_succ] at h2
  have h3 : n / 256 ^ k < 256 := (Nat.div_lt_iff_lt_mul (Nat.pow_pos (by decide))).2 (by rwa [Nat.mul_comm])
  omega

/-- What is put is taken. -/
theorem take_numB (n : Nat) (r : List UInt8) (h : n ≤ 1099511627776) : takeS (numB n ++ r) = (n, r, 0) := by
  have hs := size_le n (by omega)
  have hl := digs_len n
  have hm : (UInt8.ofNat (size n)).toNat = size n := by rw [UInt8.toNat_ofNat']; omega
  have e1 : (digs n ++ r).take (size n) = digs n := by rw [← hl]; simp
  have e2 : (digs n ++ r).drop (size n) = r := by rw [← hl]; simp
  simp only [numB, List.cons_append, takeS, hm]
  rw [if_neg (by omega), if_neg (by simp; omega), e1, e2, valB_digs, if_neg]
  rintro (⟨h1, h2⟩ | h1)
  · refine digs_head n h1 (Eq.trans ?_ h2)
    rw [List.getD_eq_getElem?_getD, List.getD_eq_getElem?_getD, List.getElem?_append_left (by omega)]
  · omega
theorem lowd_mod (n k : Nat) : lowd (n % 256 ^ k) k = lowd n k := by
  unfold lowd
  apply List.map_congr_left
  intro j hj
  have hj' : j < k := by simpa using hj
  have : (dig (n % 256 ^ k) (k - 1 - j)).toNat = (dig n (k - 1 - j)).toNat := by
    rw [dig_nat, dig_nat]
    obtain ⟨i, hi⟩ : ∃ i, k = (k - 1 - j) + 1 + i := ⟨j, by omega⟩
    generalize k - 1 - j = q at *
    subst hi
    rw [show q + 1 + i = q + (1 + i) by omega, Nat.pow_add, Nat.mod_mul_right_div_self, show 1 + i = i + 1 by omega, Nat.pow_succ, Nat.mul_comm (256 ^ i) 256, Nat.mod_mul_right_mod]
  exact UInt8.toNat_inj.1 this
theorem lowd_valB (l : List UInt8) : lowd (valB l) l.length = l := by
  induction l with
  | nil => rfl
  | cons d r ih =>
    have hp : 0 < 256 ^ r.length := Nat.pow_pos (by decide)
    have hv := valB_lt r
    have hd := d.toNat_lt
    rw [List.length_cons, lowd_succ, ← lowd_mod, valB_cons, Nat.add_comm, Nat.add_mul_mod_self_right, Nat.mod_eq_of_lt hv, ih]
    congr 1
    apply UInt8.toNat_inj.1
    rw [dig_nat, Nat.add_comm, Nat.mul_comm, Nat.mul_add_div hp, Nat.div_eq_of_lt hv]
    omega
theorem size_eq {n k : Nat} (h1 : n < 256 ^ k) (h2 : k = 0 ∨ 256 ^ (k - 1) ≤ n) : size n = k := by
  have a := (size_pos (n := n) (k := k))
  have b := (size_pos (n := n) (k := k - 1))
  have c : n / 256 ^ k = 0 := Nat.div_eq_of_lt h1
  rcases h2 with h2 | h2
  · subst h2; omega
  · have : 0 < n / 256 ^ (k - 1) := Nat.div_pos h2 (Nat.pow_pos (by decide))
    have := b.1 this
    omega
/-- What is taken was put. -/
theorem numB_take {b r : List UInt8} {n : Nat} (h : takeS b = (n, r, 0)) : b = numB n ++ r ∧ n ≤ 1099511627776 := by
  rcases b with _ | ⟨m, l⟩
  · simp [takeS] at h
  · simp only [takeS] at h
    split at h
    · simp at h
    · rename_i h6
      split at h
      · simp at h
      · rename_i hr
        split at h
        · simp at h
        · rename_i hP
          simp only [Prod.mk.injEq, and_true] at h
          obtain ⟨rfl, rfl⟩ := h
          have hlen : (l.take m.toNat).length = m.toNat := by simp; omega
          have hsz : size (valB (l.take m.toNat)) = m.toNat := by
            refine size_eq (by have := valB_lt (l.take m.toNat); rwa [hlen] at this) ?_
            rcases Nat.eq_zero_or_pos m.toNat with h0 | h0
            · exact .inl h0
            · right
              rcases hl : l with _ | ⟨d, q⟩
              · rw [hl] at hr; simp at hr; omega
              · obtain ⟨k, hk⟩ : ∃ k, m.toNat = k + 1 := ⟨m.toNat - 1, by omega⟩
                rw [hl, hk, List.take_succ_cons] at hlen
                rw [hk, List.take_succ_cons, valB_cons]
                simp only [List.length_cons, Nat.add_right_cancel_iff] at hlen
                rw [hlen, Nat.add_sub_cancel]
                have hd : d.toNat ≠ 0 := fun e => hP (.inl ⟨h0, by rw [hl]; exact u8z e⟩)
                have : 1 * 256 ^ k ≤ d.toNat * 256 ^ k := Nat.mul_le_mul_right _ (by omega)
                omega
          refine ⟨?_, by omega⟩
          have e : digs (valB (l.take m.toNat)) = l.take m.toNat := by
            rw [digs_eq, hsz]
            have := lowd_valB (l.take m.toNat)
            rwa [hlen] at this
          simp only [numB, e, hsz, List.cons_append, List.take_append_drop]
          congr 1
          apply UInt8.toNat_inj.1
          rw [UInt8.toNat_ofNat']
          have := m.toNat_lt
          omega
end Go.Proofs.YtbpemnmpcljbpaaGreat
