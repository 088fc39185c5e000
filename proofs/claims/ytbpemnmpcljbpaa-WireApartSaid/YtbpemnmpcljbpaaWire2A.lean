/- Written by a program (pre.py) from the source of the same name. -/
/- Frames, plain: a burst of at most 32 bits is seen. -/
import Derived.Test.YtbpemnmpcljbpaaWireZ
import Derived.Test.YtbpemnmpcljbpaaFwE
set_option linter.unusedSimpArgs false
set_option linter.unusedVariables false
set_option linter.unnecessarySimpa false
namespace Go.Proofs.Ytbpemnmpcljbpaa
namespace Wi
open Go.Gar
set_option maxRecDepth 4000

/-! ### The bits of bytes -/
def bitAt (l : List UInt8) (j : Nat) : Bool := (l.getD (j / 8) 0).toNat.testBit (7 - j % 8)
theorem bits8_len (d : UInt8) : (bits8 d).length = 8 := by simp [bits8]
theorem bitsB_len : ∀ l : List UInt8, (bitsB l).length = 8 * l.length
  | [] => rfl
  | d :: r => by
    have := bitsB_len r
    simp only [bitsB, List.flatMap_cons, List.length_append, bits8_len, List.length_cons] at this ⊢
    omega
theorem bitsB_get : ∀ (l : List UInt8) (j : Nat), j < 8 * l.length → (bitsB l)[j]? = some (bitAt l j)
  | [], j, h => by simp at h
  | d :: r, j, h => by
    show (bits8 d ++ bitsB r)[j]? = _
    rcases Nat.lt_or_ge j 8 with hj | hj
    · rw [List.getElem?_append_left (by rw [bits8_len]; exact hj)]
      have e1 : j / 8 = 0 := by omega
      have e2 : j % 8 = j := by omega
      unfold bitAt
      rw [e1, e2]
      simp [bits8, hj]
    · rw [List.getElem?_append_right (by rw [bits8_len]; exact hj), bits8_len, bitsB_get r (j - 8) (by simp only [List.length_cons] at h; omega)]
      unfold bitAt
      have e1 : j / 8 = (j - 8) / 8 + 1 := by omega
      have e2 : (j - 8) % 8 = j % 8 := by omega
      rw [e1, e2]
      rfl
theorem bitsB_app (l m : List UInt8) : bitsB (l ++ m) = bitsB l ++ bitsB m := by simp [bitsB]

/-! ### What a frame's sum says -/
theorem low_run (R : List Bool) (h : R.length = 32) (s : BitVec 32) (hs : ∀ i, i < 32 → s.getLsbD i = R.getD (31 - i) false) : crun 0#32 R = s := by
  apply BitVec.eq_of_getLsbD_eq
  intro i hi
  have := crun_low R.reverse (by rw [List.length_reverse]; omega) i hi
  rw [List.reverse_reverse] at this
  rw [this, hs i hi, List.getD_eq_getElem?_getD, List.getD_eq_getElem?_getD, List.getElem?_reverse (by omega), h]
theorem be4_bits (s : BitVec 32) : crun 0#32 (bitsB (be4 s)) = s := by
  have hs := s.isLt
  refine low_run _ (by rw [bitsB_len, be4_len]) s fun i hi => ?_
  rw [List.getD_eq_getElem?_getD, bitsB_get _ _ (by rw [be4_len]; omega), Option.getD_some]
  have key : ∀ n : Nat, (UInt8.ofNat ((n : Int) % 256).toNat).toNat = n % 256 := fun n => by rw [u8_lt _ (by omega)]; omega
  have hd : ∀ k : Nat, k < 4 → ((be4 s).getD k 0).toNat = s.toNat / 256 ^ (3 - k) % 256 := by
    intro k hk
    have e : k = 0 ∨ k = 1 ∨ k = 2 ∨ k = 3 := by omega
    rcases e with rfl | rfl | rfl | rfl
    · have := key (s.toNat / 16777216); simpa [be4] using this
    · have := key (s.toNat / 65536); simpa [be4] using this
    · have := key (s.toNat / 256); simpa [be4] using this
    · have := key (s.toNat); simpa [be4] using this
  unfold bitAt
  rw [hd _ (by omega), Nat.testBit, BitVec.getLsbD, Nat.testBit]
  have h256 : (256 : Nat) ^ (3 - (31 - i) / 8) = 2 ^ (8 * (3 - (31 - i) / 8)) := by rw [show (256 : Nat) = 2 ^ 8 from rfl, ← Nat.pow_mul]
  rw [h256]
  have : (s.toNat / 2 ^ (8 * (3 - (31 - i) / 8)) % 256).testBit (7 - (31 - i) % 8) = s.toNat.testBit i := by
    rw [show (256 : Nat) = 2 ^ 8 from rfl, Nat.testBit_mod_two_pow, Nat.testBit_div_two_pow]
    have h1 : 7 - (31 - i) % 8 < 8 := by omega
    have h2 : 7 - (31 - i) % 8 + 8 * (3 - (31 - i) / 8) = i := by omega
    rw [decide_eq_true h1, Bool.true_and]
    first | rw [h2] | rw [Nat.add_comm, h2] | (congr 1; omega)
  simp only [Nat.testBit] at this
  exact this.symm
theorem zeros_32 : crun 0#32 (List.replicate 32 false) = 0#32 := by decide
theorem crun_shift (s : BitVec 32) (R : List Bool) (h : R.length = 32) : crun s R = crun s (List.replicate 32 false) ^^^ crun 0#32 R := by
  have := crun_xor (List.replicate 32 false) R s 0#32 (by rw [h]; rfl)
  rw [BitVec.xor_zero] at this
  rw [← this]
  congr 1
  apply List.ext_getElem?
  intro i
  rw [List.getElem?_zipWith]
  rcases Nat.lt_or_ge i 32 with hi | hi
  · rw [List.getElem?_replicate, if_pos hi, List.getElem?_eq_getElem (by omega)]
    simp
  · rw [List.getElem?_eq_none (by omega), List.getElem?_eq_none (by simp; omega)]
/-- A frame, all of it, runs to nothing. -/
theorem frame_zero {p : List UInt8} (h : p.length ≤ 112) : crun ones (bitsB (closeV p).1) = 0#32 := by
  rw [closeV_ok h]
  simp only
  rw [bitsB_app, crun_app, crun_shift _ _ (by rw [bitsB_len, be4_len]), be4_bits]
  unfold sumV
  rw [crun_app, BitVec.xor_self]

/-! ### Bits put together with others -/
def flip (c : List UInt8) (p : Nat) : List UInt8 := c.set (p / 8) (c.getD (p / 8) 0 ^^^ UInt8.ofNat (128 / 2 ^ (p % 8)))
theorem flip_len (c : List UInt8) (p : Nat) : (flip c p).length = c.length := by simp [flip]
theorem flip_tab : ∀ (k q : Fin 8), (128 / 2 ^ k.1).testBit q.1 = decide (q.1 = 7 - k.1) := by decide
theorem flip_bit (c : List UInt8) (p j : Nat) (hp : p < 8 * c.length) : bitAt (flip c p) j = (bitAt c j ^^ decide (j = p)) := by
  unfold bitAt flip
  by_cases h : j / 8 = p / 8
  · rw [h, List.getD_eq_getElem?_getD, List.getElem?_set_self (by omega), Option.getD_some, UInt8.toNat_xor, Nat.testBit_xor, u8_lt _ (by
      have : 0 < 2 ^ (p % 8) := Nat.two_pow_pos _
      exact Nat.lt_of_le_of_lt (Nat.div_le_self _ _) (by decide))]
    congr 1
    have := flip_tab ⟨p % 8, by omega⟩ ⟨7 - j % 8, by omega⟩
    simp only at this
    rw [this]
    congr 1
    simp only [eq_iff_iff]
    omega
  · rw [List.getD_eq_getElem?_getD, List.getElem?_set_ne (by omega), ← List.getD_eq_getElem?_getD]
    have : ¬ j = p := fun e => h (by rw [e])
    simp [this]
/-- The first k of the 32 bits have been put together with those from a place on. -/
def burst (b : List UInt8) (at_ by_ : Nat) : Nat → List UInt8
  | 0 => b
  | k + 1 => if by_.testBit k then flip (burst b at_ by_ k) (at_ + k) else burst b at_ by_ k
theorem burst_len (b : List UInt8) (at_ by_ : Nat) : ∀ k, (burst b at_ by_ k).length = b.length
  | 0 => rfl
  | k + 1 => by
    have := burst_len b at_ by_ k
    unfold burst
    split
    · rw [flip_len, this]
    · exact this
theorem burst_bit (b : List UInt8) (at_ by_ : Nat) : ∀ k, at_ + k ≤ 8 * b.length → ∀ j, bitAt (burst b at_ by_ k) j = (bitAt b j ^^ (decide (at_ ≤ j ∧ j < at_ + k) && by_.testBit (j - at_)))
  | 0, _, j => by
    have : ¬ (at_ ≤ j ∧ j < at_ + 0) := by omega
    rw [decide_eq_false this]
    simp [burst]
  | k + 1, h, j => by
    have ih := burst_bit b at_ by_ k (by omega) j
    unfold burst
    split
    · rename_i hb
      rw [flip_bit _ _ _ (by rw [burst_len]; omega), ih]
      by_cases e : j = at_ + k
      · subst e
        simp [hb]
      · have e1 : decide (at_ ≤ j ∧ j < at_ + (k + 1)) = decide (at_ ≤ j ∧ j < at_ + k) := by congr 1; simp; omega
        rw [e1]
        simp [e]
    · rename_i hb
      rw [ih]
      by_cases e : j = at_ + k
      · subst e
        simp [hb]
      · have e1 : decide (at_ ≤ j ∧ j < at_ + (k + 1)) = decide (at_ ≤ j ∧ j < at_ + k) := by congr 1; simp; omega
        rw [e1]
theorem burst_bits (b : List UInt8) (at_ by_ : Nat) (h : at_ + 32 ≤ 8 * b.length) :
    List.zipWith (· ^^ ·) (bitsB b) (bitsB (burst b at_ by_ 32)) = List.replicate at_ false ++ (List.range 32).map by_.testBit ++ List.replicate (8 * b.length - 32 - at_) false := by
  apply List.ext_getElem?
  intro j
  rw [List.getElem?_zipWith]
  rcases Nat.lt_or_ge j (8 * b.length) with hj | hj
  · rw [bitsB_get _ _ hj, bitsB_get _ _ (by rw [burst_len]; exact hj), burst_bit b at_ by_ 32 h j]
    have e : (bitAt b j ^^ (bitAt b j ^^ (decide (at_ ≤ j ∧ j < at_ + 32) && by_.testBit (j - at_)))) = (decide (at_ ≤ j ∧ j < at_ + 32) && by_.testBit (j - at_)) := by
      cases bitAt b j <;> simp
    show some _ = _
    rw [e, List.append_assoc]
    rcases Nat.lt_or_ge j at_ with h1 | h1
    · rw [List.getElem?_append_left (by simpa using h1)]
      have : ¬ (at_ ≤ j ∧ j < at_ + 32) := by omega
      simp [h1, this]
    · rw [List.getElem?_append_right (by simpa using h1), List.length_replicate]
      rcases Nat.lt_or_ge j (at_ + 32) with h2 | h2
      · rw [List.getElem?_append_left (by simp; omega)]
        have : at_ ≤ j ∧ j < at_ + 32 := ⟨h1, h2⟩
        rw [decide_eq_true this, Bool.true_and, List.getElem?_map, List.getElem?_range (by omega)]
        rfl
      · rw [List.getElem?_append_right (by simp; omega)]
        have : ¬ (at_ ≤ j ∧ j < at_ + 32) := by omega
        rw [decide_eq_false this, Bool.false_and, List.getElem?_replicate, if_pos (by simp; omega)]
  · rw [List.getElem?_eq_none (by rw [bitsB_len]; exact hj)]
    symm
    simp
    omega
/-- With others put together, not all 0, it is no frame. -/
theorem burst_no {p q : List UInt8} (hp : p.length ≤ 112) (hq : q.length ≤ 112) (at_ by_ : Nat) (h : at_ + 32 ≤ 8 * (closeV p).1.length) (hb : by_ < 2 ^ 32) (e : (closeV q).1 = burst (closeV p).1 at_ by_ 32) : by_ = 0 := by
  have h1 := frame_zero hp
  have h2 := frame_zero hq
  rw [e] at h2
  have h3 := crun_xor (bitsB (closeV p).1) (bitsB (burst (closeV p).1 at_ by_ 32)) ones ones (by rw [bitsB_len, bitsB_len, burst_len])
  rw [h1, h2, BitVec.xor_self, BitVec.xor_self, burst_bits _ _ _ h] at h3
  have h4 := burst_seen _ _ _ (by simp) h3
  apply Nat.eq_of_testBit_eq
  intro i
  rw [Nat.zero_testBit]
  rcases Nat.lt_or_ge i 32 with hi | hi
  · exact h4 _ (List.mem_map.2 ⟨i, List.mem_range.2 hi, rfl⟩)
  · exact Nat.testBit_lt_two_pow (Nat.lt_of_lt_of_le hb (Nat.pow_le_pow_right (by decide) hi))
theorem burst_zero (b : List UInt8) (at_ : Nat) : ∀ k, burst b at_ 0 k = b
  | 0 => rfl
  | k + 1 => by unfold burst; rw [if_neg (by simp)]; exact burst_zero b at_ k
end Wi
end Go.Proofs.Ytbpemnmpcljbpaa
