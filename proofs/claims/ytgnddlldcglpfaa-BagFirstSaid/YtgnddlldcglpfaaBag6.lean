/- Written by a program (pre.py) from the source of the same name. -/
/- Bags: own, send, take, drop, twice. -/
import Derived.Test.YtgnddlldcglpfaaBag5
set_option linter.unusedSimpArgs false
set_option linter.unusedVariables false
set_option linter.unnecessarySimpa false
namespace Go.Proofs.Ytgnddlldcglpfaa
open Go.Gar
set_option maxRecDepth 4000

theorem own_own (l : List Gram) (n : Int) (hl : l.length ≤ 1000) (hs : small l) : FnD Try.prog 31 [.d (Bag.d ⟨l, n⟩)] [] (.ag [.sl 6 l.length 3, .d (.i .i64 n)]) [.gone, .c [.sl 6 l.length 3, .d (.i .i64 n)], .gone, .gone, .gone, .gone, .a (gramsD l)] := by
  refine FnD_of_W eok Try.func31 rfl rfl (Nat.le_of_ble_eq_true rfl) ?_
  have nS := True.intro
  repeat' (first
   | ((with_reducible refine sg ?_); first
    | with_reducible rfl
    | with_reducible refine andT ?_ ?_
    | with_reducible exact Nat.beq_refl _
    | with_reducible exact fitsI_u8 _
    | ((with_reducible refine decide_eq_true ?_); first | omega | (simp only [SZl, nS]; omega))
    | decide
    | (simp [SZl, slc, allOneD, D.one, allOne, AV.one, nS]; done)
    | (simp [SZl, nS]; omega))
   | ((with_reducible refine gWl ?_); first
    | (refine Wl_isMv rfl ?_; refine Xmv eok rfl rfl rfl rfl ?_)
    | refine Xq eok rfl rfl rfl rfl ?_ ?_
    | refine Xn [0, 1, 2] rfl ?_
    | refine XD [] (withOwn_fn l n hl hs) rfl rfl rfl (by repeat' (first | exact True.intro | refine And.intro rfl ?_)) rfl rfl rfl rfl ?_
    | refine Xa eok rfl rfl rfl rfl rfl ?_ ?_
    | refine Xw eok rfl rfl rfl rfl ?_ ?_)
   | refine W_seq ?_
   | refine W_region ?_
   | refine W_skip ?_
   | refine W_ret ?_
   | refine W_block ?_
   | refine W_exit ?_
   | refine W_cond_t rfl ?_
   | refine W_cond_f rfl ?_
   | (refine W_cond rfl (fun hc => ?_) (fun hc => ?_) <;> (try simp only [decide_eq_true_eq, decide_eq_false_iff_not, Bool.not_eq_true', Bool.not_eq_false', beq_iff_eq, beq_eq_false_iff_ne, bne_iff_ne, bne_eq_false_iff_eq, ne_eq, Int.not_lt, Int.not_le, ge_iff_le, gt_iff_lt] at hc) <;> (try (exfalso; omega))))
  exact ⟨⟨[(2, .ptr 1 0 2)], [.gone, .c [.sl 6 l.length 3, .d (.i .i64 n)], .gone, .gone, .gone, .gone, .a (gramsD l)], Try.f31.ntmps⟩, (TSub.cut rfl (by repeat' (first | exact True.intro | refine And.intro (by (first | rfl | ((with_reducible_and_instances refine congrArg (fun z => some (AV.d (D.i _ z))) ?_); omega) | (refine congrArg (fun z => some (AV.d (D.i _ z))) (?_ : (_ : Int) = _); omega) | (refine congrArg some ?_; simp; done))) ?_)) (by repeat' (first | exact True.intro | refine And.intro (Or.inr rfl) ?_ | refine And.intro (Or.inl ⟨rfl, rfl⟩) ?_ | refine And.intro (Or.inr (by simp)) ?_)) (by first | rfl | (simp (decide := true) [heapOk, Blk.ok, AV.oks, AV.ok, hk]; done)) rfl), Nat.zero_le _, _, _, rfl, rfl, rfl, rfl⟩
theorem own_fn (b : Bag) (hl : b.grams.length ≤ 1000) (hs : small b.grams) : Go.Gar.Fn Try.prog 31 [b.d] b.d := by
  refine Fn_of_D (own_own b.grams b.lost hl hs) ?_
  simp [Frz_ag, Frzs_cons, Frzs_nil, Frz_d, Frz_sl, Bag.d, sln]

theorem send_fn (b : Bag) (l : List Gram) (hb : b.grams.length ≤ 1000) (hbs : small b.grams) (hl : l.length ≤ 1000) (hs : small l) : Go.Gar.Fn Try.prog 19 [b.d, gramsD l] (putB b l).d := by
  obtain ⟨gs, n⟩ := b
  refine Fn_of_W eok Try.func19 rfl rfl (Nat.le_of_ble_eq_true rfl) ?_
  have nS := True.intro
  repeat' (first
   | ((with_reducible refine sg ?_); first
    | with_reducible rfl
    | with_reducible refine andT ?_ ?_
    | with_reducible exact Nat.beq_refl _
    | with_reducible exact fitsI_u8 _
    | ((with_reducible refine decide_eq_true ?_); first | omega | (simp only [SZl, nS]; omega))
    | decide
    | (simp [SZl, slc, allOneD, D.one, allOne, AV.one, nS]; done)
    | (simp [SZl, nS]; omega))
   | ((with_reducible refine gWl ?_); first
    | (refine Wl_isMv rfl ?_; refine Xmv eok rfl rfl rfl rfl ?_)
    | refine Xq eok rfl rfl rfl rfl ?_ ?_
    | refine Xn [0, 1, 2, 4] rfl ?_
    | refine XD [] (own_own gs n hb hbs) rfl rfl rfl (by repeat' (first | exact True.intro | refine And.intro rfl ?_)) rfl rfl rfl rfl ?_
    | refine XD [8] (put_fn ⟨gs, n⟩ l hb hl hs) rfl rfl rfl (by repeat' (first | exact True.intro | refine And.intro rfl ?_)) rfl rfl rfl rfl ?_
    | refine Xa eok rfl rfl rfl rfl rfl ?_ ?_
    | refine Xw eok rfl rfl rfl rfl ?_ ?_)
   | refine W_seq ?_
   | refine W_region ?_
   | refine W_skip ?_
   | refine W_ret ?_
   | refine W_block ?_
   | refine W_exit ?_
   | refine W_cond_t rfl ?_
   | refine W_cond_f rfl ?_
   | (refine W_cond rfl (fun hc => ?_) (fun hc => ?_) <;> (try simp only [decide_eq_true_eq, decide_eq_false_iff_not, Bool.not_eq_true', Bool.not_eq_false', beq_iff_eq, beq_eq_false_iff_ne, bne_iff_ne, bne_eq_false_iff_eq, ne_eq, Int.not_lt, Int.not_le, ge_iff_le, gt_iff_lt] at hc) <;> (try (exfalso; omega))))
  refine ⟨_, _, rfl, rfl, ?_⟩; simp [Frz_tup, Frz_ag, Frzs_cons, Frzs_nil, Frz_d, Frz_e0, Frz_sl, sln, isSl, slOk, Bag.d, gramsD]

theorem isAt_nat {b : Bag} {at_ : Int} (h : b.isAt at_ = true) : ∃ a : Nat, at_ = a ∧ a < b.grams.length := by
  simp only [Bag.isAt, Bool.and_eq_true, decide_eq_true_eq] at h
  exact ⟨at_.toNat, by omega, by omega⟩
def dropB (b : Bag) (at_ : Int) : Bag × Int := if b.isAt at_ then (⟨b.grams.eraseIdx at_.toNat, IntKind.wrap .i64 (b.lost + 1)⟩, 0) else (b, 2)
theorem drop_fn (b : Bag) (at_ : Int) (hb : b.grams.length ≤ 1000) (hbs : small b.grams) : Go.Gar.Fn Try.prog 22 [b.d, .i .i64 at_] (.tup [(dropB b at_).1.d, .i .i64 (dropB b at_).2]) := by
  have hI := isAt_fn b at_
  have hO := own_fn b hb hbs
  refine Fn_of_W eok Try.func22 rfl rfl (Nat.le_of_ble_eq_true rfl) ?_
  unfold dropB
  cases h : b.isAt at_ with
  | true =>
    obtain ⟨a, rfl, ha⟩ := isAt_nat h
    obtain ⟨gs, n⟩ := b
    have nS := h
    repeat' (first
     | ((with_reducible refine sg ?_); first
      | with_reducible rfl
      | with_reducible refine andT ?_ ?_
      | with_reducible exact Nat.beq_refl _
      | with_reducible exact fitsI_u8 _
      | ((with_reducible refine decide_eq_true ?_); first | omega | (simp only [SZl, nS]; omega))
      | decide
      | (simp [SZl, slc, allOneD, D.one, allOne, AV.one, nS]; done)
      | (simp [SZl, nS]; omega))
     | ((with_reducible refine gWl ?_); first
      | (refine Wl_isMv rfl ?_; refine Xmv eok rfl rfl rfl rfl ?_)
      | refine XwL [15] rfl rfl rfl rfl rfl ?_ ?_
      | refine Xq eok rfl rfl rfl rfl ?_ ?_
      | refine Xn [0, 1, 2, 4, 5, 9] rfl ?_
      | refine XF (hI) rfl rfl rfl rfl ?_
      | refine XD [] (withDrop_fn gs n a hb hbs) rfl rfl rfl (by repeat' (first | exact True.intro | refine And.intro rfl ?_)) rfl rfl rfl rfl ?_
      | refine Xa eok rfl rfl rfl rfl rfl ?_ ?_
      | refine Xw eok rfl rfl rfl rfl ?_ ?_)
     | refine W_seq ?_
     | refine W_region ?_
     | refine W_skip ?_
     | refine W_ret ?_
     | refine W_block ?_
     | refine W_exit ?_
     | refine W_scope 3 ?_
     | refine W_goto ?_
     | refine W_label ?_
     | refine W_cond_t rfl ?_
     | refine W_cond_f rfl ?_
     | (refine W_cond rfl (fun hc => ?_) (fun hc => ?_) <;> (try simp only [decide_eq_true_eq, decide_eq_false_iff_not, Bool.not_eq_true', Bool.not_eq_false', beq_iff_eq, beq_eq_false_iff_ne, bne_iff_ne, bne_eq_false_iff_eq, ne_eq, Int.not_lt, Int.not_le, ge_iff_le, gt_iff_lt] at hc) <;> (try (exfalso; omega))))
    refine ⟨_, _, rfl, rfl, ?_⟩; simp [Frz_tup, Frz_ag, Frzs_cons, Frzs_nil, Frz_d, Frz_e0, Frz_sl, sln, isSl, slOk, Bag.d, gramsD]
  | false =>
    obtain ⟨gs, n⟩ := b
    have nS := h
    repeat' (first
     | ((with_reducible refine sg ?_); first
      | with_reducible rfl
      | with_reducible refine andT ?_ ?_
      | with_reducible exact Nat.beq_refl _
      | with_reducible exact fitsI_u8 _
      | ((with_reducible refine decide_eq_true ?_); first | omega | (simp only [SZl, nS]; omega))
      | decide
      | (simp [SZl, slc, allOneD, D.one, allOne, AV.one, nS]; done)
      | (simp [SZl, nS]; omega))
     | ((with_reducible refine gWl ?_); first
      | (refine Wl_isMv rfl ?_; refine Xmv eok rfl rfl rfl rfl ?_)
      | refine Xq eok rfl rfl rfl rfl ?_ ?_
      | refine Xn [0, 1, 2, 4, 5, 9] rfl ?_
      | refine XF (hI) rfl rfl rfl rfl ?_
      | refine XF (hO) rfl rfl rfl rfl ?_
      | refine Xa eok rfl rfl rfl rfl rfl ?_ ?_
      | refine Xw eok rfl rfl rfl rfl ?_ ?_)
     | refine W_seq ?_
     | refine W_region ?_
     | refine W_skip ?_
     | refine W_ret ?_
     | refine W_block ?_
     | refine W_exit ?_
     | refine W_scope 3 ?_
     | refine W_goto ?_
     | refine W_label ?_
     | refine W_cond_t rfl ?_
     | refine W_cond_f rfl ?_
     | (refine W_cond rfl (fun hc => ?_) (fun hc => ?_) <;> (try simp only [decide_eq_true_eq, decide_eq_false_iff_not, Bool.not_eq_true', Bool.not_eq_false', beq_iff_eq, beq_eq_false_iff_ne, bne_iff_ne, bne_eq_false_iff_eq, ne_eq, Int.not_lt, Int.not_le, ge_iff_le, gt_iff_lt] at hc) <;> (try (exfalso; omega))))
    refine ⟨_, _, rfl, rfl, ?_⟩; simp [Frz_tup, Frz_ag, Frzs_cons, Frzs_nil, Frz_d, Frz_e0, Frz_sl, sln, isSl, slOk, Bag.d, gramsD]

def twiceB (b : Bag) (at_ : Int) : Bag × Int := if b.isAt at_ then (putB b [b.grams.getD at_.toNat zeroG], 0) else (b, 2)
theorem twice_fn (b : Bag) (at_ : Int) (hb : b.grams.length ≤ 1000) (hbs : small b.grams) : Go.Gar.Fn Try.prog 24 [b.d, .i .i64 at_] (.tup [(twiceB b at_).1.d, .i .i64 (twiceB b at_).2]) := by
  have hI := isAt_fn b at_
  have hO := own_fn b hb hbs
  refine Fn_of_W eok Try.func24 rfl rfl (Nat.le_of_ble_eq_true rfl) ?_
  unfold twiceB
  cases h : b.isAt at_ with
  | true =>
    obtain ⟨a, rfl, ha⟩ := isAt_nat h
    obtain ⟨gs, n⟩ := b
    replace ha : a < gs.length := ha
    obtain ⟨x, hx⟩ := get_of ha
    have hg : gs.getD a zeroG = x := by rw [List.getD_eq_getElem?_getD, hx]; rfl
    have hS := send_fn ⟨gs, n⟩ [x] hb hbs (by simp) (by intro g hg; simp at hg; subst hg; exact small_get hbs hx)
    have nS := h
    repeat' (first
     | ((with_reducible refine sg ?_); first
      | with_reducible rfl
      | with_reducible refine andT ?_ ?_
      | with_reducible exact Nat.beq_refl _
      | with_reducible exact fitsI_u8 _
      | ((with_reducible refine decide_eq_true ?_); first | omega | (simp only [SZl, nS]; omega))
      | decide
      | (simp [SZl, slc, allOneD, D.one, allOne, AV.one, nS]; done)
      | (simp [SZl, nS]; omega))
     | ((with_reducible refine gWl ?_); first
      | (refine Wl_isMv rfl ?_; refine Xmv eok rfl rfl rfl rfl ?_)
      | (refine Wl_isIx rfl ?_; refine Xix eok rfl rfl rfl rfl rfl (Int.natCast_nonneg _) (ix_map hx) ?_)
      | refine Xq eok rfl rfl rfl rfl ?_ ?_
      | refine Xn [0, 1, 2, 4, 5, 9] rfl ?_
      | refine XF (hI) rfl rfl rfl rfl ?_
      | refine XF (hS) rfl rfl rfl rfl ?_
      | refine Xa eok rfl rfl rfl rfl rfl ?_ ?_
      | refine Xw eok rfl rfl rfl rfl ?_ ?_)
     | ((with_reducible refine gWd ?_); first
      | (refine Wd_isMv rfl ?_; refine Ymv eok rfl rfl (fun _ => rfl) rfl rfl ?_)
      | (refine Wd_isIx rfl ?_; refine Yix eok rfl rfl (fun _ => rfl) rfl rfl rfl (Int.natCast_nonneg _) (ix_map hx) ?_)
      | refine Yp eok rfl rfl (fun _ => rfl) rfl rfl ?_ ?_
      | refine Yq rfl rfl rfl rfl rfl ?_ ?_
      | refine Ys rfl rfl rfl rfl ?_
      | refine YF (hI) rfl rfl rfl rfl rfl ?_
      | refine YF (hS) rfl rfl rfl rfl rfl ?_
      | refine Ya eok rfl rfl rfl rfl rfl rfl ?_ ?_
      | refine Yw eok rfl rfl rfl rfl rfl ?_ ?_
      | refine Yn [0, 1, 2, 4, 5, 9] [] mixed eok (by kernel_rfl) True.intro rfl ?_)
     | refine W_seq ?_
     | refine W_region ?_
     | refine W_any T.get ?_
     | refine W_skip ?_
     | refine W_ret ?_
     | refine W_block ?_
     | refine W_exit ?_
     | refine W_scope 3 ?_
     | refine W_goto ?_
     | refine W_label ?_
     | refine W_cond_t rfl ?_
     | refine W_cond_f rfl ?_
     | (refine W_cond rfl (fun hc => ?_) (fun hc => ?_) <;> (try simp only [decide_eq_true_eq, decide_eq_false_iff_not, Bool.not_eq_true', Bool.not_eq_false', beq_iff_eq, beq_eq_false_iff_ne, bne_iff_ne, bne_eq_false_iff_eq, ne_eq, Int.not_lt, Int.not_le, ge_iff_le, gt_iff_lt] at hc) <;> (try (exfalso; omega))))
    refine ⟨_, _, rfl, rfl, ?_⟩; simp [Frz_tup, Frz_ag, Frzs_cons, Frzs_nil, Frz_d, Frz_e0, Frz_sl, sln, isSl, slOk, Bag.d, gramsD, hx]
  | false =>
    obtain ⟨gs, n⟩ := b
    have nS := h
    repeat' (first
     | ((with_reducible refine sg ?_); first
      | with_reducible rfl
      | with_reducible refine andT ?_ ?_
      | with_reducible exact Nat.beq_refl _
      | with_reducible exact fitsI_u8 _
      | ((with_reducible refine decide_eq_true ?_); first | omega | (simp only [SZl, nS]; omega))
      | decide
      | (simp [SZl, slc, allOneD, D.one, allOne, AV.one, nS]; done)
      | (simp [SZl, nS]; omega))
     | ((with_reducible refine gWl ?_); first
      | (refine Wl_isMv rfl ?_; refine Xmv eok rfl rfl rfl rfl ?_)
      | refine Xq eok rfl rfl rfl rfl ?_ ?_
      | refine Xn [0, 1, 2, 4, 5, 9] rfl ?_
      | refine XF (hI) rfl rfl rfl rfl ?_
      | refine XF (hO) rfl rfl rfl rfl ?_
      | refine Xa eok rfl rfl rfl rfl rfl ?_ ?_
      | refine Xw eok rfl rfl rfl rfl ?_ ?_)
     | ((with_reducible refine gWd ?_); first
      | (refine Wd_isMv rfl ?_; refine Ymv eok rfl rfl (fun _ => rfl) rfl rfl ?_)
      | refine Yp eok rfl rfl (fun _ => rfl) rfl rfl ?_ ?_
      | refine Yq rfl rfl rfl rfl rfl ?_ ?_
      | refine Ys rfl rfl rfl rfl ?_
      | refine YF (hI) rfl rfl rfl rfl rfl ?_
      | refine YF (hO) rfl rfl rfl rfl rfl ?_
      | refine Ya eok rfl rfl rfl rfl rfl rfl ?_ ?_
      | refine Yw eok rfl rfl rfl rfl rfl ?_ ?_
      | refine Yn [0, 1, 2, 4, 5, 9] [] mixed eok (by kernel_rfl) True.intro rfl ?_)
     | refine W_seq ?_
     | refine W_region ?_
     | refine W_any T.get ?_
     | refine W_skip ?_
     | refine W_ret ?_
     | refine W_block ?_
     | refine W_exit ?_
     | refine W_scope 3 ?_
     | refine W_goto ?_
     | refine W_label ?_
     | refine W_cond_t rfl ?_
     | refine W_cond_f rfl ?_
     | (refine W_cond rfl (fun hc => ?_) (fun hc => ?_) <;> (try simp only [decide_eq_true_eq, decide_eq_false_iff_not, Bool.not_eq_true', Bool.not_eq_false', beq_iff_eq, beq_eq_false_iff_ne, bne_iff_ne, bne_eq_false_iff_eq, ne_eq, Int.not_lt, Int.not_le, ge_iff_le, gt_iff_lt] at hc) <;> (try (exfalso; omega))))
    refine ⟨_, _, rfl, rfl, ?_⟩; simp [Frz_tup, Frz_ag, Frzs_cons, Frzs_nil, Frz_d, Frz_e0, Frz_sl, sln, isSl, slOk, Bag.d, gramsD]

def takeB (b : Bag) (at_ : Int) : Bag × Gram × Bool := if b.isAt at_ then (⟨b.grams.eraseIdx at_.toNat, b.lost⟩, b.grams.getD at_.toNat zeroG, true) else (b, zeroG, false)
theorem take_fn (b : Bag) (at_ : Int) (hb : b.grams.length ≤ 1000) (hbs : small b.grams) : Go.Gar.Fn Try.prog 16 [b.d, .i .i64 at_] (.tup [(takeB b at_).1.d, (takeB b at_).2.1.d, .b (takeB b at_).2.2]) := by
  have hI := isAt_fn b at_
  have hO := own_fn b hb hbs
  refine Fn_of_W eok Try.func16 rfl rfl (Nat.le_of_ble_eq_true rfl) ?_
  unfold takeB
  cases h : b.isAt at_ with
  | true =>
    obtain ⟨a, rfl, ha⟩ := isAt_nat h
    obtain ⟨gs, n⟩ := b
    replace ha : a < gs.length := ha
    obtain ⟨x, hx⟩ := get_of ha
    have hg : gs.getD a zeroG = x := by rw [List.getD_eq_getElem?_getD, hx]; rfl
    have nS := h
    repeat' (first
     | ((with_reducible refine sg ?_); first
      | with_reducible rfl
      | with_reducible refine andT ?_ ?_
      | with_reducible exact Nat.beq_refl _
      | with_reducible exact fitsI_u8 _
      | ((with_reducible refine decide_eq_true ?_); first | omega | (simp only [SZl, nS]; omega))
      | decide
      | (simp [SZl, slc, allOneD, D.one, allOne, AV.one, nS]; done)
      | (simp [SZl, nS]; omega))
     | ((with_reducible refine gWl ?_); first
      | (refine Wl_isMv rfl ?_; refine Xmv eok rfl rfl rfl rfl ?_)
      | refine Xq eok rfl rfl rfl rfl ?_ ?_
      | refine Xn [0, 1, 2, 4, 5, 6, 7, 11] rfl ?_
      | refine XF (hI) rfl rfl rfl rfl ?_
      | refine XD [3] (withTake_fn gs n a x hx hb hbs) rfl rfl rfl (by repeat' (first | exact True.intro | refine And.intro rfl ?_)) rfl rfl rfl rfl ?_
      | refine Xa eok rfl rfl rfl rfl rfl ?_ ?_
      | refine Xw eok rfl rfl rfl rfl ?_ ?_)
     | ((with_reducible refine gWd ?_); first
      | (refine Wd_isMv rfl ?_; refine Ymv eok rfl rfl (fun _ => rfl) rfl rfl ?_)
      | refine Yp eok rfl rfl (fun _ => rfl) rfl rfl ?_ ?_
      | refine Yq rfl rfl rfl rfl rfl ?_ ?_
      | refine Ys rfl rfl rfl rfl ?_
      | refine YF (hI) rfl rfl rfl rfl rfl ?_
      | refine YD [3] (withTake_fn gs n a x hx hb hbs) rfl rfl rfl rfl (by repeat' (first | exact True.intro | refine And.intro rfl ?_)) rfl rfl rfl rfl ?_
      | refine Ya eok rfl rfl rfl rfl rfl rfl ?_ ?_
      | refine Yw eok rfl rfl rfl rfl rfl ?_ ?_
      | refine Yn [0, 1, 2, 4, 5, 6, 7, 11] [(1, 2)] mixed eok (by kernel_rfl) (by simp only [extraL]; repeat' (first | exact True.intro | refine And.intro ?_ ?_ | exact ⟨_, rfl, rfl⟩ | rfl)) rfl ?_)
     | refine W_seq ?_
     | refine W_region ?_
     | refine W_any T.get ?_
     | refine W_skip ?_
     | refine W_ret ?_
     | refine W_block ?_
     | refine W_exit ?_
     | refine W_scope 3 ?_
     | refine W_goto ?_
     | refine W_label ?_
     | refine W_cond_t rfl ?_
     | refine W_cond_f rfl ?_
     | (refine W_cond rfl (fun hc => ?_) (fun hc => ?_) <;> (try simp only [decide_eq_true_eq, decide_eq_false_iff_not, Bool.not_eq_true', Bool.not_eq_false', beq_iff_eq, beq_eq_false_iff_ne, bne_iff_ne, bne_eq_false_iff_eq, ne_eq, Int.not_lt, Int.not_le, ge_iff_le, gt_iff_lt] at hc) <;> (try (exfalso; omega))))
    refine ⟨_, _, rfl, rfl, ?_⟩; simp [Frz_tup, Frz_ag, Frzs_cons, Frzs_nil, Frz_d, Frz_e0, Frz_sl, sln, isSl, slOk, Bag.d, gramsD, hx, Gram.d, Gram.cells]
  | false =>
    obtain ⟨gs, n⟩ := b
    have nS := h
    repeat' (first
     | ((with_reducible refine sg ?_); first
      | with_reducible rfl
      | with_reducible refine andT ?_ ?_
      | with_reducible exact Nat.beq_refl _
      | with_reducible exact fitsI_u8 _
      | ((with_reducible refine decide_eq_true ?_); first | omega | (simp only [SZl, nS]; omega))
      | decide
      | (simp [SZl, slc, allOneD, D.one, allOne, AV.one, nS]; done)
      | (simp [SZl, nS]; omega))
     | ((with_reducible refine gWl ?_); first
      | (refine Wl_isMv rfl ?_; refine Xmv eok rfl rfl rfl rfl ?_)
      | refine Xq eok rfl rfl rfl rfl ?_ ?_
      | refine Xn [0, 1, 2, 4, 5, 6, 7, 11] rfl ?_
      | refine XF (hI) rfl rfl rfl rfl ?_
      | refine XF (hO) rfl rfl rfl rfl ?_
      | refine Xa eok rfl rfl rfl rfl rfl ?_ ?_
      | refine Xw eok rfl rfl rfl rfl ?_ ?_)
     | ((with_reducible refine gWd ?_); first
      | (refine Wd_isMv rfl ?_; refine Ymv eok rfl rfl (fun _ => rfl) rfl rfl ?_)
      | refine Yp eok rfl rfl (fun _ => rfl) rfl rfl ?_ ?_
      | refine Yq rfl rfl rfl rfl rfl ?_ ?_
      | refine Ys rfl rfl rfl rfl ?_
      | refine YF (hI) rfl rfl rfl rfl rfl ?_
      | refine YF (hO) rfl rfl rfl rfl rfl ?_
      | refine Ya eok rfl rfl rfl rfl rfl rfl ?_ ?_
      | refine Yw eok rfl rfl rfl rfl rfl ?_ ?_
      | refine Yn [0, 1, 2, 4, 5, 6, 7, 11] [] mixed eok (by kernel_rfl) True.intro rfl ?_)
     | refine W_seq ?_
     | refine W_region ?_
     | refine W_any T.get ?_
     | refine W_skip ?_
     | refine W_ret ?_
     | refine W_block ?_
     | refine W_exit ?_
     | refine W_scope 3 ?_
     | refine W_goto ?_
     | refine W_label ?_
     | refine W_cond_t rfl ?_
     | refine W_cond_f rfl ?_
     | (refine W_cond rfl (fun hc => ?_) (fun hc => ?_) <;> (try simp only [decide_eq_true_eq, decide_eq_false_iff_not, Bool.not_eq_true', Bool.not_eq_false', beq_iff_eq, beq_eq_false_iff_ne, bne_iff_ne, bne_eq_false_iff_eq, ne_eq, Int.not_lt, Int.not_le, ge_iff_le, gt_iff_lt] at hc) <;> (try (exfalso; omega))))
    refine ⟨_, _, rfl, rfl, ?_⟩; simp [Frz_tup, Frz_ag, Frzs_cons, Frzs_nil, Frz_d, Frz_e0, Frz_sl, sln, isSl, slOk, Bag.d, gramsD, Gram.d, Gram.cells, zeroG]
end Go.Proofs.Ytgnddlldcglpfaa
