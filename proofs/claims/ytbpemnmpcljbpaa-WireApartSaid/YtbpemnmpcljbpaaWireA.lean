/- Written by a program (pre.py) from the source of the same name. -/
/- The sum of bytes, plain: a step is linear; a step without a bit is one to one; what stands in the lowest 32 places. -/
import Derived.Test.YtbpemnmpcljbpaaTab
import Derived.Test.YtbpemnmpcljbpaaFwC
set_option linter.unusedSimpArgs false
set_option linter.unusedVariables false
set_option linter.unnecessarySimpa false
namespace Go.Proofs.Ytbpemnmpcljbpaa
namespace Wi
open Go.Gar

abbrev pat : BitVec 32 := 0x741b8cd7#32
def bitB (b : Bool) : BitVec 32 := if b then 1#32 else 0#32
def cstep (s : BitVec 32) (b : Bool) : BitVec 32 := (s <<< 1 ^^^ bitB b) ^^^ (if s.getLsbD 31 then pat else 0#32)
def crun (s : BitVec 32) (l : List Bool) : BitVec 32 := l.foldl cstep s

theorem bitB_xor (a b : Bool) : bitB (a ^^ b) = bitB a ^^^ bitB b := by cases a <;> cases b <;> rfl
theorem cstep_xor (s t : BitVec 32) (a b : Bool) : cstep (s ^^^ t) (a ^^ b) = cstep s a ^^^ cstep t b := by
  have h : ((if (s ^^^ t).getLsbD 31 then pat else 0#32) : BitVec 32) = (if s.getLsbD 31 then pat else 0#32) ^^^ (if t.getLsbD 31 then pat else 0#32) := by
    rw [BitVec.getLsbD_xor]
    cases s.getLsbD 31 <;> cases t.getLsbD 31 <;> simp
  unfold cstep
  rw [h, bitB_xor, BitVec.shiftLeft_xor_distrib]
  ac_rfl
theorem crun_xor : ∀ (l m : List Bool) (s t : BitVec 32), l.length = m.length → crun (s ^^^ t) (List.zipWith (· ^^ ·) l m) = crun s l ^^^ crun t m
  | [], [], s, t, _ => rfl
  | a :: l, b :: m, s, t, h => by
    simp only [List.zipWith_cons_cons, crun, List.foldl_cons]
    rw [cstep_xor]
    exact crun_xor l m _ _ (by simpa using h)
  | [], _ :: _, _, _, h => by simp at h
  | _ :: _, [], _, _, h => by simp at h

theorem cstep_zero {s : BitVec 32} (h : cstep s false = 0#32) : s = 0#32 := by
  have hb : ∀ i, (cstep s false).getLsbD i = false := fun i => by rw [h]; simp
  have h0 : s.getLsbD 31 = false := by
    have := hb 0
    cases hs : s.getLsbD 31
    · rfl
    · unfold cstep at this
      rw [hs] at this
      simp [bitB] at this
      exact absurd this (by decide)
  apply BitVec.eq_of_getLsbD_eq
  intro i hi
  by_cases e : i = 31
  · subst e; rw [h0]; simp
  · have := hb (i + 1)
    unfold cstep at this
    rw [h0] at this
    simp [bitB, show i + 1 < 32 by omega] at this
    simp [BitVec.getLsbD_eq_getElem, hi, this]
theorem crun_zeros : ∀ (j : Nat) {s : BitVec 32}, crun s (List.replicate j false) = 0#32 → s = 0#32
  | 0, s, h => h
  | j + 1, s, h => by
    rw [List.replicate_succ] at h
    exact cstep_zero (crun_zeros j h)
theorem crun_app (s : BitVec 32) (l m : List Bool) : crun s (l ++ m) = crun (crun s l) m := by simp [crun]

theorem cstep_bits (s : BitVec 32) (b : Bool) (h : s.getLsbD 31 = false) (i : Nat) (hi : i < 32) : (cstep s b).getLsbD i = if i = 0 then b else s.getLsbD (i - 1) := by
  unfold cstep
  rw [h]
  by_cases e : i = 0
  · subst e; cases b <;> simp [bitB]
  · rw [if_neg e]
    have : (bitB b).getLsbD i = false := by
      cases b
      · simp [bitB]
      · simp [bitB, BitVec.getLsbD_one, e]
    simp only [BitVec.getLsbD_xor, BitVec.getLsbD_shiftLeft, this]
    simp [hi, show ¬ i < 1 by omega]
theorem crun_low : ∀ (r : List Bool), r.length ≤ 32 → ∀ i, i < 32 → (crun 0#32 r.reverse).getLsbD i = r.getD i false
  | [], _, i, _ => by simp [crun]
  | b :: r, hl, i, hi => by
    simp only [List.length_cons] at hl
    have ih := crun_low r (by omega)
    rw [List.reverse_cons, crun_app]
    show (cstep (crun 0#32 r.reverse) b).getLsbD i = _
    have h31 : (crun 0#32 r.reverse).getLsbD 31 = false := by
      rw [ih 31 (by omega), List.getD_eq_getElem?_getD, List.getElem?_eq_none (by omega)]
      rfl
    rw [cstep_bits _ _ h31 i hi]
    by_cases e : i = 0
    · subst e; simp
    · rw [if_neg e, ih (i - 1) (by omega)]
      obtain ⟨k, rfl⟩ := Nat.exists_eq_succ_of_ne_zero e
      simp
/-- A burst of 32 places is seen. -/
theorem burst_seen (i j : Nat) (l : List Bool) (hl : l.length ≤ 32) (h : crun 0#32 (List.replicate i false ++ l ++ List.replicate j false) = 0#32) : ∀ b ∈ l, b = false := by
  have z : ∀ i, crun 0#32 (List.replicate i false) = 0#32 := by
    intro i
    induction i with
    | zero => rfl
    | succ i ih =>
      rw [List.replicate_succ]
      show crun (cstep 0#32 false) _ = _
      have : cstep 0#32 false = 0#32 := by decide
      rw [this]; exact ih
  rw [crun_app, crun_app, z] at h
  have h := crun_zeros j h
  intro b hb
  obtain ⟨k, hk, rfl⟩ := List.mem_iff_getElem.1 (List.mem_reverse.2 hb)
  have hk' : k < l.length := by simpa using hk
  have := crun_low l.reverse (by simpa using hl) k (by omega)
  rw [List.reverse_reverse, h, List.getD_eq_getElem?_getD, List.getElem?_eq_getElem hk] at this
  simpa using this.symm
end Wi
end Go.Proofs.Ytbpemnmpcljbpaa
