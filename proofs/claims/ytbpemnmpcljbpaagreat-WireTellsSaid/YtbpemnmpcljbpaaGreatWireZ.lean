/- Written by a program (pre.py) from the source of the same name. -/
/- Frames, plain: what is closed is opened, what is opened was closed; a burst is seen. -/
import Derived.Test.YtbpemnmpcljbpaaGreatWireI
import Derived.Test.YtbpemnmpcljbpaaGreatFwE
set_option linter.unusedSimpArgs false
set_option linter.unusedVariables false
set_option linter.unnecessarySimpa false
namespace Go.Proofs.YtbpemnmpcljbpaaGreat
namespace Wi
open Go.Gar
set_option maxRecDepth 4000

theorem hdr_len (n : Int) : (hdr n).length = 4 := rfl
theorem be4_len (s : BitVec 32) : (be4 s).length = 4 := rfl
theorem u8_lt (n : Nat) (h : n < 256) : (UInt8.ofNat n).toNat = n := by simp [UInt8.toNat_ofNat']; omega
theorem closeV_ok {p : List UInt8} (h : p.length ≤ 112) : closeV p = (hdr p.length ++ p ++ be4 (sumV (hdr p.length ++ p)), 0) := if_neg (by omega)
theorem hdr_eq (n : Nat) (h : n < 65536) : hdr n = [71, 1, UInt8.ofNat (n / 256), UInt8.ofNat (n % 256)] := by
  have e1 : ((n : Int) / 256 % 256).toNat = n / 256 := by omega
  have e2 : ((n : Int) % 256).toNat = n % 256 := by omega
  unfold hdr
  rw [e1, e2]
  rfl
theorem open_close {p : List UInt8} (h : p.length ≤ 112) : openC (closeV p).1 = (p, 0) := by
  rw [closeV_ok h]
  generalize hs : be4 (sumV (hdr p.length ++ p)) = S
  have hS : S.length = 4 := by rw [← hs]; rfl
  have hb : hdr p.length ++ p ++ S = 71 :: 1 :: UInt8.ofNat (p.length / 256) :: UInt8.ofNat (p.length % 256) :: (p ++ S) := by
    rw [hdr_eq p.length (by omega)]; rfl
  have hfr : frN (hdr p.length ++ p ++ S) = p.length := by
    rw [hb]
    unfold frN
    simp only [List.getD_cons_succ, List.getD_cons_zero]
    rw [u8_lt _ (by omega), u8_lt _ (by omega)]
    omega
  have htk : (hdr p.length ++ p ++ S).take (4 + p.length) = hdr p.length ++ p := by
    rw [List.take_append_of_le_length (by simp [hdr_len]), List.take_of_length_le (by simp [hdr_len])]
  unfold openC
  rw [hfr, htk, hs]
  rw [if_neg (by simp [hdr_len]; omega), if_neg]
  · rw [if_pos]
    · rw [hb]; simp
    · rw [List.all_eq_true]
      intro i hi
      have hi := List.mem_range.1 hi
      rw [beq_iff_eq, List.getD_eq_getElem?_getD, List.getD_eq_getElem?_getD, List.getElem?_append_right (by simp [hdr_len])]
      congr 2
      simp [hdr_len]
  · rw [hb]
    simp [hS]
    omega
theorem open_get {b p : List UInt8} {e : Int} (h : openC b = (p, e)) : (e = 0 ∧ p.length ≤ 112 ∧ (closeV p).1 = b) ∨ (e = 11 ∧ b.length < 8 ∧ p = []) ∨ (e = 12 ∧ 8 ≤ b.length ∧ p = []) := by
  unfold openC at h
  split at h
  · cases h; exact .inr (.inl ⟨rfl, by assumption, rfl⟩)
  rename_i h8
  split at h
  · cases h; exact .inr (.inr ⟨rfl, by omega, rfl⟩)
  rename_i hc
  split at h
  · rename_i hall
    simp only [Prod.mk.injEq] at h
    obtain ⟨rfl, rfl⟩ := h
    refine .inl ⟨rfl, by simp; omega, ?_⟩
    have hn : b.length = frN b + 8 := by omega
    have hpl : ((b.drop 4).take (frN b)).length = frN b := by simp; omega
    obtain ⟨b0, b1, b2, b3, t, rfl⟩ : ∃ b0 b1 b2 b3 t, b = b0 :: b1 :: b2 :: b3 :: t := by
      rcases b with _ | ⟨b0, _ | ⟨b1, _ | ⟨b2, _ | ⟨b3, t⟩⟩⟩⟩ <;> first | exact ⟨_, _, _, _, _, rfl⟩ | (simp at h8)
    have hfr : frN (b0 :: b1 :: b2 :: b3 :: t) = b2.toNat * 256 + b3.toNat := rfl
    have l2 := b2.toNat_lt
    have l3 := b3.toNat_lt
    have e0 : b0 = 71 := UInt8.toNat_inj.1 (by have : ((b0.toNat : Nat) : Int) = 71 := by simpa using Classical.not_not.1 (fun h => hc (.inr (.inl h)))
                                               have : (71 : UInt8).toNat = 71 := rfl
                                               omega)
    have e1 : b1 = 1 := UInt8.toNat_inj.1 (by have : ((b1.toNat : Nat) : Int) = 1 := by simpa using Classical.not_not.1 (fun h => hc (.inr (.inr (.inl h))))
                                              have : (1 : UInt8).toNat = 1 := rfl
                                              omega)
    rw [closeV_ok (by rw [hpl]; omega), hpl]
    have hh : hdr (frN (b0 :: b1 :: b2 :: b3 :: t)) = [b0, b1, b2, b3] := by
      rw [hdr_eq _ (by omega), hfr, e0, e1, show (b2.toNat * 256 + b3.toNat) / 256 = b2.toNat by omega, show (b2.toNat * 256 + b3.toNat) % 256 = b3.toNat by omega]
      simp
    generalize hN : frN (b0 :: b1 :: b2 :: b3 :: t) = N at *
    have htk : (b0 :: b1 :: b2 :: b3 :: t).take (4 + N) = hdr N ++ List.take N (List.drop 4 (b0 :: b1 :: b2 :: b3 :: t)) := by
      rw [hh, show 4 + N = N + 4 by omega]; rfl
    have htl : (b0 :: b1 :: b2 :: b3 :: t).drop (4 + N) = be4 (sumV ((b0 :: b1 :: b2 :: b3 :: t).take (4 + N))) := by
      apply List.ext_getElem?
      intro i
      rw [List.getElem?_drop]
      rcases Nat.lt_or_ge i 4 with hi | hi
      · have := List.all_eq_true.1 hall i (List.mem_range.2 hi)
        rw [beq_iff_eq, List.getD_eq_getElem?_getD, List.getD_eq_getElem?_getD] at this
        rw [List.getElem?_eq_getElem (by omega)] at this ⊢
        rw [List.getElem?_eq_getElem (by rw [be4_len]; exact hi)] at this ⊢
        simpa using this
      · rw [List.getElem?_eq_none (by omega), List.getElem?_eq_none (by rw [be4_len]; exact hi)]
    rw [← htk, ← htl]
    exact List.take_append_drop _ _
  · cases h; exact .inr (.inr ⟨rfl, by omega, rfl⟩)
end Wi
end Go.Proofs.YtbpemnmpcljbpaaGreat
