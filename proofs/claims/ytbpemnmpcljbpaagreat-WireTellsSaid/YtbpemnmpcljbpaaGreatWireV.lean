/- Written by a program (pre.py) from the source of the same name. -/
/- Payloads: read. -/
import Derived.Test.YtbpemnmpcljbpaaGreatWireU
import Derived.Test.YtbpemnmpcljbpaaGreatFwE
set_option linter.unusedSimpArgs false
set_option linter.unusedVariables false
set_option linter.unnecessarySimpa false
namespace Go.Proofs.YtbpemnmpcljbpaaGreat
namespace Wi
open Go.Gar
set_option maxRecDepth 4000

def moreF (k : Int) : Nat := if k = 4 then 63 else if k = 5 then 65 else if k = 6 then 67 else if k = 7 then 69 else if k = 10 then 71 else if k = 11 then 72 else 73
theorem more_no (m : Msg) (b : List UInt8) (hb : b.length < 70368744177664) (h : pMore m b = none) : FnX Tryz.prog (moreF m.kind) [.ptr 0 0 1, .ptr 1 0 1] (gH m b) (pF 12) gX := by
  unfold pMore at h
  unfold moreF
  by_cases h4 : m.kind = 4
  · rw [if_pos h4] at h ⊢
    split at h
    · rename_i h1; exact r1_no1 m b hb h1
    · rename_i n b1 h1
      split at h
      · rename_i h2; exact r1_no2 m b hb n b1 h1 h2
      · cases h
  rw [if_neg h4] at h ⊢
  by_cases h5 : m.kind = 5
  · rw [if_pos h5] at h ⊢
    split at h
    · rename_i h1; exact r2_no1 m b hb h1
    · cases h
  rw [if_neg h5] at h ⊢
  by_cases h6 : m.kind = 6
  · rw [if_pos h6] at h ⊢
    split at h
    · rename_i h1; exact r3_no1 m b hb h1
    · cases h
  rw [if_neg h6] at h ⊢
  by_cases h7 : m.kind = 7
  · rw [if_pos h7] at h ⊢
    split at h
    · rename_i h1; exact r4_no1 m b hb h1
    · rename_i n b1 h1
      split at h
      · rename_i h2; exact r4_no2 m b hb n b1 h1 h2
      · cases h
  rw [if_neg h7] at h ⊢
  by_cases h10 : m.kind = 10
  · rw [if_pos h10] at h ⊢
    split at h
    · rename_i h1; exact r5_no1 m b hb h1
    · rename_i n b1 h1
      split at h
      · rename_i h2; exact r5_no2 m b hb n b1 h1 h2
      · cases h
  rw [if_neg h10] at h ⊢
  by_cases h11 : m.kind = 11
  · rw [if_pos h11] at h ⊢
    split at h
    · rename_i h1; exact r6_no1 m b hb h1
    · cases h
  rw [if_neg h11] at h ⊢
  split at h
  · split at h
    · rename_i h1; exact r7_no1 m b hb h1
    · rename_i n b1 h1
      split at h
      · rename_i hn
        subst hn
        split at h
        · rename_i h2; exact r7_no2 m b hb b1 h1 h2
        · cases h
      · cases h
  · cases h
def special (k : Int) : Prop := k = 4 ∨ k = 5 ∨ k = 6 ∨ k = 7 ∨ k = 10 ∨ k = 11 ∨ k = 12
theorem more_ok (m : Msg) (b : List UInt8) (hb : b.length < 70368744177664) (m' : Msg) (r : List UInt8) (h : pMore m b = some (m', r)) (hs : special m.kind) : FnD Tryz.prog (moreF m.kind) [.ptr 0 0 1, .ptr 1 0 1] (gH m b) (.tup []) (gH m' r) := by
  unfold pMore at h
  unfold moreF
  by_cases h4 : m.kind = 4
  · rw [if_pos h4] at h ⊢
    split at h
    · cases h
    · rename_i n b1 h1
      split at h
      · cases h
      · rename_i g b2 h2
        cases h; exact r1_ok m b hb n b1 h1 g _ h2
  rw [if_neg h4] at h ⊢
  by_cases h5 : m.kind = 5
  · rw [if_pos h5] at h ⊢
    split at h
    · cases h
    · rename_i x b1 h1
      cases h; exact r2_ok m b hb x _ h1
  rw [if_neg h5] at h ⊢
  by_cases h6 : m.kind = 6
  · rw [if_pos h6] at h ⊢
    split at h
    · cases h
    · rename_i s b1 h1
      cases h; exact r3_ok m b hb s _ h1
  rw [if_neg h6] at h ⊢
  by_cases h7 : m.kind = 7
  · rw [if_pos h7] at h ⊢
    split at h
    · cases h
    · rename_i n b1 h1
      split at h
      · cases h
      · rename_i l b2 h2
        cases h; exact r4_ok m b hb n b1 h1 l _ h2
  rw [if_neg h7] at h ⊢
  by_cases h10 : m.kind = 10
  · rw [if_pos h10] at h ⊢
    split at h
    · cases h
    · rename_i n b1 h1
      split at h
      · cases h
      · rename_i g b2 h2
        cases h; exact r5_ok m b hb n b1 h1 g _ h2
  rw [if_neg h10] at h ⊢
  by_cases h11 : m.kind = 11
  · rw [if_pos h11] at h ⊢
    split at h
    · cases h
    · rename_i n b1 h1
      cases h; exact r6_ok m b hb n _ h1
  rw [if_neg h11] at h ⊢
  have h12 : m.kind = 12 := by unfold special at hs; omega
  rw [if_pos h12] at h
  split at h
  · cases h
  · rename_i n b1 h1
    split at h
    · rename_i hn
      subst hn
      split at h
      · cases h
      · rename_i x b2 h2
        cases h; exact r7_ok2 m b hb b1 h1 x _ h2
    · rename_i hn
      cases h; exact r7_ok m b hb n _ h1 hn
theorem pMore_other (m : Msg) (b : List UInt8) (hs : ¬ special m.kind) : pMore m b = some (m, b) := by
  unfold special at hs
  unfold pMore
  rw [if_neg (by omega), if_neg (by omega), if_neg (by omega), if_neg (by omega), if_neg (by omega), if_neg (by omega), if_neg (by omega)]

def mapR : List (D × AV) := [(.i .u8 4, .fn (.func 63) [] [.ptr 3 0 1, .ptr 2 0 1]), (.i .u8 5, .fn (.func 65) [] [.ptr 3 0 1, .ptr 2 0 1]), (.i .u8 6, .fn (.func 67) [] [.ptr 3 0 1, .ptr 2 0 1]), (.i .u8 7, .fn (.func 69) [] [.ptr 3 0 1, .ptr 2 0 1]),
  (.i .u8 10, .fn (.func 71) [] [.ptr 3 0 1, .ptr 2 0 1]), (.i .u8 11, .fn (.func 72) [] [.ptr 3 0 1, .ptr 2 0 1]), (.i .u8 12, .fn (.func 73) [] [.ptr 3 0 1, .ptr 2 0 1])]
theorem reads_own (m : Msg) (b : List UInt8) : FnD Tryz.prog 31 [.ptr 0 0 15, .ptr 1 0 1] [.c (mC m), .c [.d (.by b)]] (.mp 4) [.c (mC m), .c [.d (.by b)], .c [.ptr 0 0 15], .c [.ptr 1 0 1], .m mapR] := by
  refine FnD_of_W eok Tryz.func31 rfl rfl (Nat.le_of_ble_eq_true rfl) ?_
  unfold mapR mC
  have nS := True.intro
  repeat' (first|((with_reducible refine sg ?_);first|with_reducible rfl|((with_reducible refine fitG ?_);first|kernel_rfl|rfl|(simp [fitT,fitF,nS];done))|with_reducible refine andT ?_ ?_|with_reducible exact Nat.beq_refl _|with_reducible exact fitsI_u8 _|((with_reducible refine decide_eq_true ?_);first|omega|(simp only [SZl,nS];omega))|decide|(simp [SZl,slc,allOneD,D.one,allOne,AV.one,nS];done)|(simp [SZl,nS];omega))|((with_reducible refine gWl ?_);first|(refine Wl_isMv rfl ?_;refine Xmv eok rfl rfl rfl rfl ?_)|refine Xq eok rfl rfl rfl rfl ?_ ?_|refine Xn [0,1,2,3,4] rfl ?_|refine Xa eok rfl rfl rfl rfl rfl ?_ ?_|refine Xw eok rfl rfl rfl rfl ?_ ?_)|refine W_seq ?_|refine W_region ?_|refine W_skip ?_|refine W_ret ?_|refine W_block ?_|refine W_exit ?_|refine W_cond_t rfl ?_|refine W_cond_f rfl ?_|(refine W_cond rfl (fun hc => ?_) (fun hc => ?_) <;> (try simp only [HCl] at hc) <;> (try (exfalso;omega))))
  exact ⟨_, TSub.refl _, Nat.le_of_ble_eq_true rfl, _, _, rfl, rfl, rfl, rfl⟩

/-! ### The call that is deferred -/
theorem Read1_ret (H : List Blk) : FnR Tryz.prog 29 [.ptr 0 0 15, .ptr 1 0 1] H .returning H := by
  refine FnR_of_WS Tryz.func29 rfl rfl (Nat.le_of_ble_eq_true rfl) fun c0 cs hu => ?_
  refine WS_seq (WS_region ?_)
  refine Srec rfl rfl rfl rfl (.inl ⟨by simp [recoverD, hu], rfl, rfl⟩) ?_
  refine Sq eok rfl rfl rfl rfl ?_ rfl
  refine WlS_nil ?_
  refine WS_seq (WS_regionK ?_)
  refine Kq eok rfl rfl rfl rfl ?_ rfl
  refine Kn eok rfl rfl rfl rfl ?_
  refine WlK_nil ?_
  refine WS_cond rfl (WS_skip ?_)
  exact ⟨.returning, by rw [← hu], rfl, _, TSub.refl _, Nat.le_refl _, rfl⟩
def zC : List AV := [.d (.i .u8 0), .d (.i .i64 0), .d (.i .i64 0), .d (.i .i64 0), .d (.i .i64 0), .d (.b false), .d (.b false), .d (.i .i64 0), .d (.i .i64 0), .e0, .d (.s []), .d (.i .i64 0), .d (.i .i64 0), .d (.b false), .d (.i .i64 0)]
theorem Read1_pan (c0 c1 c2 c3 c4 c5 c6 c7 c8 c9 c10 c11 c12 c13 c14 y : AV) (R : List Blk) (n : Int) : FnR Tryz.prog 29 [.ptr 0 0 15, .ptr 1 0 1] (.c [c0, c1, c2, c3, c4, c5, c6, c7, c8, c9, c10, c11, c12, c13, c14] :: .c [y] :: R) (.panicking (pF n)) (.c zC :: .c [.d (.i .i64 n)] :: R) := by
  have hc := codeOf_f n 12
  refine FnR_of_WS Tryz.func29 rfl rfl (Nat.le_of_ble_eq_true rfl) fun c0 cs hu => ?_
  refine WS_seq (WS_region ?_)
  refine Srec (cs' := { c0 with mode := .panicking [{ v := .iface 42 (.agg #[.int .i64 n]), recovered := true }] } :: cs) rfl rfl rfl rfl (.inr ⟨42, .agg #[.int .i64 n], by simp [recoverD, hu, pF], rfl⟩) ?_
  refine Sq eok rfl rfl rfl rfl ?_ rfl
  refine WlS_nil ?_
  refine WS_seq (WS_regionK ?_)
  refine Kq eok rfl rfl rfl rfl ?_ rfl
  refine Kn eok rfl rfl rfl rfl ?_
  refine WlK_nil ?_
  refine WS_cond rfl (WS_regionK ?_)
  refine Kq eok rfl rfl rfl rfl ?_ rfl
  refine Kq eok rfl rfl rfl rfl ?_ rfl
  refine KF hc rfl rfl rfl rfl (by simp [AsD, Frzs, Frz]) rfl rfl ?_
  refine Kw eok rfl rfl rfl rfl ?_ rfl
  refine Kw eok rfl rfl rfl rfl ?_ rfl
  refine WlK_nil ?_
  exact ⟨_, rfl, rfl, _, TSub.refl _, Nat.le_refl _, rfl⟩
end Wi
end Go.Proofs.YtbpemnmpcljbpaaGreat
