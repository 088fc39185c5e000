/- Written by a program (pre.py) from the source of the same name. -/
/- Pairs: the law of the newest. -/
import Derived.Test.YtflikcmbbljgeaaItem8
set_option linter.unusedSimpArgs false
set_option linter.unusedVariables false
set_option linter.unnecessarySimpa false
namespace Go.Proofs.Ytflikcmbbljgeaa
open Go.Gar
set_option maxRecDepth 4000

theorem nwT_snoc (l : List Item) (x : Item) : nwT (l ++ [x]) = nwStep (nwT l) x := by
  unfold nwT; rw [List.foldl_append]; rfl
/-- What the newest is. -/
structure NwOK (l : List Item) (b : Item × Bool) : Prop where
  any : b.2 = l.any Item.may
  none : b.2 = false → b.1 = zeroI
  mem : b.2 = true → b.1 ∈ l ∧ b.1.may = true
  top : ∀ x ∈ l, x.may = true → ¬ newer x b.1
theorem newer_irrefl (x : Item) : ¬ newer x x := by
  intro h
  have := (newer_iff x x).2 h
  rw [(cmp_zero x x).2 ⟨rfl, rfl, rfl⟩] at this
  cases this
theorem not_newer_trans {x y z : Item} (h : ¬ newer x y) (k : newer z y) : ¬ newer x z := fun h2 => h (newer_trans h2 k)
theorem nw_ok (l : List Item) : NwOK l (nwT l) := by
  have key : ∀ r : List Item, NwOK r.reverse (nwT r.reverse) := by
    intro r
    induction r with
    | nil => exact ⟨rfl, fun _ => rfl, fun h => (by cases h), fun x hx => (by cases hx)⟩
    | cons x r ih =>
      rw [List.reverse_cons, nwT_snoc]
      obtain ⟨h1, h2, h3, h4⟩ := ih
      generalize nwT r.reverse = b at *
      cases hc : (x.may && (!b.2 || decide (cmpT x b.1 > 0))) with
      | true =>
        rw [nw_in hc]
        simp only [Bool.and_eq_true, Bool.or_eq_true, Bool.not_eq_true', decide_eq_true_eq] at hc
        obtain ⟨hm, hb⟩ := hc
        refine ⟨(by simp [hm]), fun h => (by cases h), fun _ => ⟨(by simp), hm⟩, fun y hy hym => ?_⟩
        rw [List.mem_append] at hy
        rcases hy with hy | hy
        · rcases hb with hb | hb
          · rw [h1, List.any_eq_false] at hb
            exact absurd hym (hb y hy)
          · exact not_newer_trans (h4 y hy hym) ((newer_iff _ _).1 (gt_one.1 hb))
        · simp at hy; subst hy; exact newer_irrefl _
      | false =>
        rw [nw_out hc]
        refine ⟨?_, h2, fun h => ⟨List.mem_append_left _ (h3 h).1, (h3 h).2⟩, fun y hy hym => ?_⟩
        · rw [List.any_append, ← h1]
          cases hm : x.may with
          | false => simp [hm]
          | true =>
            rw [hm] at hc
            simp only [Bool.true_and, Bool.or_eq_false_iff, Bool.not_eq_false'] at hc
            simp [hc.1]
        · rw [List.mem_append] at hy
          rcases hy with hy | hy
          · exact h4 y hy hym
          · simp at hy; subst hy
            rw [hym] at hc
            simp only [Bool.true_and, Bool.or_eq_false_iff, decide_eq_false_iff_not] at hc
            exact fun h => hc.2 (gt_one.2 ((newer_iff _ _).2 h))
  have := key l.reverse
  rwa [List.reverse_reverse] at this
theorem not_newer_dec {x y : Item} (h : ¬ newer x y) : decide (cmpT x y > 0) = false := decide_eq_false fun h2 => h ((newer_iff _ _).1 (gt_one.1 h2))
theorem small_great {l : List Item} (h : greatI l = false) : l.length ≤ 40 := by
  simp only [greatI, Bool.or_eq_false_iff, decide_eq_false_iff_not] at h; omega

def inT (z : Item) (l : List Item) (k : Nat) : Bool := (l.take k).any fun x => decide (x = z)
theorem inT_succ {z x : Item} {l : List Item} {k : Nat} (hx : l[k]? = some x) : inT z l (k + 1) = (inT z l k || decide (x = z)) := by
  unfold inT; rw [take_succ_of hx, List.any_append]; simp

set_option maxHeartbeats 8000000 in
theorem itemNewest_fn (l m : List Item) : Go.Gar.Fn Try.prog 5 [itemsD l, itemsD m] (.b true) := by
  have cG := great_fn l
  have cH := great_fn m
  refine Fn_of_W eok Try.func5 rfl rfl (Nat.le_of_ble_eq_true rfl) ?_
  cases hg : greatI l with
  | true =>
    rw [hg] at cG
    have nS := True.intro
    repeat' (first
     | ((with_reducible refine sg ?_); first
      | with_reducible rfl
      | ((with_reducible refine fitG ?_); first | kernel_rfl | rfl | (simp [fitT, fitF, nS]; done))
      | with_reducible refine andT ?_ ?_
      | with_reducible exact Nat.beq_refl _
      | with_reducible exact fitsI_u8 _
      | ((with_reducible refine decide_eq_true ?_); first | omega | (simp only [SZl, nS]; omega))
      | decide
      | (simp [SZl, slc, allOneD, D.one, allOne, AV.one, nS]; done)
      | (simp [SZl, nS]; omega))
     | ((with_reducible refine gWl ?_); first
      | (refine Wl_isMv rfl ?_; refine Xmv eok rfl rfl rfl rfl ?_)
      | refine Xq eok rfl rfl rfl rfl ?_ ?_
      | refine Xn [0, 1, 4, 5, 6, 7, 8, 9, 10, 11, 12, 13, 29, 81, 87, 102] rfl ?_
      | refine XF (cG) rfl rfl rfl rfl ?_
      | refine XF (wakes_fn) rfl rfl rfl rfl ?_
      | refine Xa eok rfl rfl rfl rfl rfl ?_ ?_
      | refine Xw eok rfl rfl rfl rfl ?_ ?_
      | refine Xs rfl rfl rfl ?_
      | (refine Xsplit rfl rfl (fun hc => ?_) (fun hc => ?_) <;> (fail_if_success (with_reducible first | exact absurd (hc : true = false) (by decide) | exact absurd (hc : false = true) (by decide))) <;> (try simp only [decide_eq_true_eq, decide_eq_false_iff_not, Bool.not_eq_true', Bool.not_eq_false', beq_iff_eq, beq_eq_false_iff_ne, bne_iff_ne, bne_eq_false_iff_eq, ne_eq, Int.not_lt, Int.not_le, ge_iff_le, gt_iff_lt] at hc) <;> (try (exfalso; omega))))
     | ((with_reducible refine gWd ?_); first
      | (refine Wd_isMv rfl ?_; refine Ymv eok rfl rfl (fun _ => rfl) rfl rfl ?_)
      | refine Yp eok rfl rfl (fun _ => rfl) rfl rfl ?_ ?_
      | refine Yq rfl rfl rfl rfl rfl ?_ ?_
      | refine Ys rfl rfl rfl rfl ?_
      | refine YF (cG) rfl rfl rfl rfl rfl ?_
      | refine YF (wakes_fn) rfl rfl rfl rfl rfl ?_
      | refine Ya eok rfl rfl rfl rfl rfl rfl ?_ ?_
      | refine Yw eok rfl rfl rfl rfl rfl ?_ ?_
      | refine Yn [0, 1, 4, 5, 6, 7, 8, 9, 10, 11, 12, 13, 29, 81, 87, 102] [] mixed eok (by kernel_rfl) True.intro rfl ?_
      | (refine Ysplit rfl rfl (fun hc => ?_) (fun hc => ?_) <;> (fail_if_success (with_reducible first | exact absurd (hc : true = false) (by decide) | exact absurd (hc : false = true) (by decide))) <;> (try simp only [decide_eq_true_eq, decide_eq_false_iff_not, Bool.not_eq_true', Bool.not_eq_false', beq_iff_eq, beq_eq_false_iff_ne, bne_iff_ne, bne_eq_false_iff_eq, ne_eq, Int.not_lt, Int.not_le, ge_iff_le, gt_iff_lt] at hc) <;> (try (exfalso; omega))))
     | refine W_seq ?_
     | refine W_region ?_
     | refine W_any T.get ?_
     | refine W_skip ?_
     | refine W_ret ?_
     | refine W_block ?_
     | refine W_exit ?_
     | refine W_cond_t rfl ?_
     | refine W_cond_f rfl ?_
     | (refine W_cond rfl (fun hc => ?_) (fun hc => ?_) <;> (try simp only [decide_eq_true_eq, decide_eq_false_iff_not, Bool.not_eq_true', Bool.not_eq_false', beq_iff_eq, beq_eq_false_iff_ne, bne_iff_ne, bne_eq_false_iff_eq, ne_eq, Int.not_lt, Int.not_le, ge_iff_le, gt_iff_lt] at hc) <;> (try (exfalso; omega))))
    refine ⟨_, _, rfl, rfl, ?_⟩; simp [Frz_tup, Frz_ag, Frzs_cons, Frzs_nil, Frz_d, Frz_e0, Frz_sl, sln, isSl, slOk]
  | false =>
  rw [hg] at cG
  cases hh : greatI m with
  | true =>
    rw [hh] at cH
    have nS := True.intro
    repeat' (first
     | ((with_reducible refine sg ?_); first
      | with_reducible rfl
      | ((with_reducible refine fitG ?_); first | kernel_rfl | rfl | (simp [fitT, fitF, nS]; done))
      | with_reducible refine andT ?_ ?_
      | with_reducible exact Nat.beq_refl _
      | with_reducible exact fitsI_u8 _
      | ((with_reducible refine decide_eq_true ?_); first | omega | (simp only [SZl, nS]; omega))
      | decide
      | (simp [SZl, slc, allOneD, D.one, allOne, AV.one, nS]; done)
      | (simp [SZl, nS]; omega))
     | ((with_reducible refine gWl ?_); first
      | (refine Wl_isMv rfl ?_; refine Xmv eok rfl rfl rfl rfl ?_)
      | refine Xq eok rfl rfl rfl rfl ?_ ?_
      | refine Xn [0, 1, 4, 5, 6, 7, 8, 9, 10, 11, 12, 13, 29, 81, 87, 102] rfl ?_
      | refine XF (cG) rfl rfl rfl rfl ?_
      | refine XF (cH) rfl rfl rfl rfl ?_
      | refine XF (wakes_fn) rfl rfl rfl rfl ?_
      | refine Xa eok rfl rfl rfl rfl rfl ?_ ?_
      | refine Xw eok rfl rfl rfl rfl ?_ ?_
      | refine Xs rfl rfl rfl ?_
      | (refine Xsplit rfl rfl (fun hc => ?_) (fun hc => ?_) <;> (fail_if_success (with_reducible first | exact absurd (hc : true = false) (by decide) | exact absurd (hc : false = true) (by decide))) <;> (try simp only [decide_eq_true_eq, decide_eq_false_iff_not, Bool.not_eq_true', Bool.not_eq_false', beq_iff_eq, beq_eq_false_iff_ne, bne_iff_ne, bne_eq_false_iff_eq, ne_eq, Int.not_lt, Int.not_le, ge_iff_le, gt_iff_lt] at hc) <;> (try (exfalso; omega))))
     | ((with_reducible refine gWd ?_); first
      | (refine Wd_isMv rfl ?_; refine Ymv eok rfl rfl (fun _ => rfl) rfl rfl ?_)
      | refine Yp eok rfl rfl (fun _ => rfl) rfl rfl ?_ ?_
      | refine Yq rfl rfl rfl rfl rfl ?_ ?_
      | refine Ys rfl rfl rfl rfl ?_
      | refine YF (cG) rfl rfl rfl rfl rfl ?_
      | refine YF (cH) rfl rfl rfl rfl rfl ?_
      | refine YF (wakes_fn) rfl rfl rfl rfl rfl ?_
      | refine Ya eok rfl rfl rfl rfl rfl rfl ?_ ?_
      | refine Yw eok rfl rfl rfl rfl rfl ?_ ?_
      | refine Yn [0, 1, 4, 5, 6, 7, 8, 9, 10, 11, 12, 13, 29, 81, 87, 102] [] mixed eok (by kernel_rfl) True.intro rfl ?_
      | (refine Ysplit rfl rfl (fun hc => ?_) (fun hc => ?_) <;> (fail_if_success (with_reducible first | exact absurd (hc : true = false) (by decide) | exact absurd (hc : false = true) (by decide))) <;> (try simp only [decide_eq_true_eq, decide_eq_false_iff_not, Bool.not_eq_true', Bool.not_eq_false', beq_iff_eq, beq_eq_false_iff_ne, bne_iff_ne, bne_eq_false_iff_eq, ne_eq, Int.not_lt, Int.not_le, ge_iff_le, gt_iff_lt] at hc) <;> (try (exfalso; omega))))
     | refine W_seq ?_
     | refine W_region ?_
     | refine W_any T.get ?_
     | refine W_skip ?_
     | refine W_ret ?_
     | refine W_block ?_
     | refine W_exit ?_
     | refine W_cond_t rfl ?_
     | refine W_cond_f rfl ?_
     | (refine W_cond rfl (fun hc => ?_) (fun hc => ?_) <;> (try simp only [decide_eq_true_eq, decide_eq_false_iff_not, Bool.not_eq_true', Bool.not_eq_false', beq_iff_eq, beq_eq_false_iff_ne, bne_iff_ne, bne_eq_false_iff_eq, ne_eq, Int.not_lt, Int.not_le, ge_iff_le, gt_iff_lt] at hc) <;> (try (exfalso; omega))))
    refine ⟨_, _, rfl, rfl, ?_⟩; simp [Frz_tup, Frz_ag, Frzs_cons, Frzs_nil, Frz_d, Frz_e0, Frz_sl, sln, isSl, slOk]
  | false =>
  rw [hh] at cH
  by_cases h1 : l.length > 20
  · have nS := True.intro
    repeat' (first
     | ((with_reducible refine sg ?_); first
      | with_reducible rfl
      | ((with_reducible refine fitG ?_); first | kernel_rfl | rfl | (simp [fitT, fitF, nS]; done))
      | with_reducible refine andT ?_ ?_
      | with_reducible exact Nat.beq_refl _
      | with_reducible exact fitsI_u8 _
      | ((with_reducible refine decide_eq_true ?_); first | omega | (simp only [SZl, nS]; omega))
      | decide
      | (simp [SZl, slc, allOneD, D.one, allOne, AV.one, nS]; done)
      | (simp [SZl, nS]; omega))
     | ((with_reducible refine gWl ?_); first
      | (refine Wl_isMv rfl ?_; refine Xmv eok rfl rfl rfl rfl ?_)
      | refine Xq eok rfl rfl rfl rfl ?_ ?_
      | refine Xn [0, 1, 4, 5, 6, 7, 8, 9, 10, 11, 12, 13, 29, 81, 87, 102] rfl ?_
      | refine XF (cG) rfl rfl rfl rfl ?_
      | refine XF (cH) rfl rfl rfl rfl ?_
      | refine XF (wakes_fn) rfl rfl rfl rfl ?_
      | refine Xa eok rfl rfl rfl rfl rfl ?_ ?_
      | refine Xw eok rfl rfl rfl rfl ?_ ?_
      | refine Xs rfl rfl rfl ?_
      | (refine Xsplit rfl rfl (fun hc => ?_) (fun hc => ?_) <;> (fail_if_success (with_reducible first | exact absurd (hc : true = false) (by decide) | exact absurd (hc : false = true) (by decide))) <;> (try simp only [decide_eq_true_eq, decide_eq_false_iff_not, Bool.not_eq_true', Bool.not_eq_false', beq_iff_eq, beq_eq_false_iff_ne, bne_iff_ne, bne_eq_false_iff_eq, ne_eq, Int.not_lt, Int.not_le, ge_iff_le, gt_iff_lt] at hc) <;> (try (exfalso; omega))))
     | ((with_reducible refine gWd ?_); first
      | (refine Wd_isMv rfl ?_; refine Ymv eok rfl rfl (fun _ => rfl) rfl rfl ?_)
      | refine Yp eok rfl rfl (fun _ => rfl) rfl rfl ?_ ?_
      | refine Yq rfl rfl rfl rfl rfl ?_ ?_
      | refine Ys rfl rfl rfl rfl ?_
      | refine YF (cG) rfl rfl rfl rfl rfl ?_
      | refine YF (cH) rfl rfl rfl rfl rfl ?_
      | refine YF (wakes_fn) rfl rfl rfl rfl rfl ?_
      | refine Ya eok rfl rfl rfl rfl rfl rfl ?_ ?_
      | refine Yw eok rfl rfl rfl rfl rfl ?_ ?_
      | refine Yn [0, 1, 4, 5, 6, 7, 8, 9, 10, 11, 12, 13, 29, 81, 87, 102] [] mixed eok (by kernel_rfl) True.intro rfl ?_
      | (refine Ysplit rfl rfl (fun hc => ?_) (fun hc => ?_) <;> (fail_if_success (with_reducible first | exact absurd (hc : true = false) (by decide) | exact absurd (hc : false = true) (by decide))) <;> (try simp only [decide_eq_true_eq, decide_eq_false_iff_not, Bool.not_eq_true', Bool.not_eq_false', beq_iff_eq, beq_eq_false_iff_ne, bne_iff_ne, bne_eq_false_iff_eq, ne_eq, Int.not_lt, Int.not_le, ge_iff_le, gt_iff_lt] at hc) <;> (try (exfalso; omega))))
     | refine W_seq ?_
     | refine W_region ?_
     | refine W_any T.get ?_
     | refine W_skip ?_
     | refine W_ret ?_
     | refine W_block ?_
     | refine W_exit ?_
     | refine W_cond_t rfl ?_
     | refine W_cond_f rfl ?_
     | (refine W_cond rfl (fun hc => ?_) (fun hc => ?_) <;> (try simp only [decide_eq_true_eq, decide_eq_false_iff_not, Bool.not_eq_true', Bool.not_eq_false', beq_iff_eq, beq_eq_false_iff_ne, bne_iff_ne, bne_eq_false_iff_eq, ne_eq, Int.not_lt, Int.not_le, ge_iff_le, gt_iff_lt] at hc) <;> (try (exfalso; omega))))
    refine ⟨_, _, rfl, rfl, ?_⟩; simp [Frz_tup, Frz_ag, Frzs_cons, Frzs_nil, Frz_d, Frz_e0, Frz_sl, sln, isSl, slOk]
  by_cases h2 : m.length > 20
  · have nS := True.intro
    repeat' (first
     | ((with_reducible refine sg ?_); first
      | with_reducible rfl
      | ((with_reducible refine fitG ?_); first | kernel_rfl | rfl | (simp [fitT, fitF, nS]; done))
      | with_reducible refine andT ?_ ?_
      | with_reducible exact Nat.beq_refl _
      | with_reducible exact fitsI_u8 _
      | ((with_reducible refine decide_eq_true ?_); first | omega | (simp only [SZl, nS]; omega))
      | decide
      | (simp [SZl, slc, allOneD, D.one, allOne, AV.one, nS]; done)
      | (simp [SZl, nS]; omega))
     | ((with_reducible refine gWl ?_); first
      | (refine Wl_isMv rfl ?_; refine Xmv eok rfl rfl rfl rfl ?_)
      | refine Xq eok rfl rfl rfl rfl ?_ ?_
      | refine Xn [0, 1, 4, 5, 6, 7, 8, 9, 10, 11, 12, 13, 29, 81, 87, 102] rfl ?_
      | refine XF (cG) rfl rfl rfl rfl ?_
      | refine XF (cH) rfl rfl rfl rfl ?_
      | refine XF (wakes_fn) rfl rfl rfl rfl ?_
      | refine Xa eok rfl rfl rfl rfl rfl ?_ ?_
      | refine Xw eok rfl rfl rfl rfl ?_ ?_
      | refine Xs rfl rfl rfl ?_
      | (refine Xsplit rfl rfl (fun hc => ?_) (fun hc => ?_) <;> (fail_if_success (with_reducible first | exact absurd (hc : true = false) (by decide) | exact absurd (hc : false = true) (by decide))) <;> (try simp only [decide_eq_true_eq, decide_eq_false_iff_not, Bool.not_eq_true', Bool.not_eq_false', beq_iff_eq, beq_eq_false_iff_ne, bne_iff_ne, bne_eq_false_iff_eq, ne_eq, Int.not_lt, Int.not_le, ge_iff_le, gt_iff_lt] at hc) <;> (try (exfalso; omega))))
     | ((with_reducible refine gWd ?_); first
      | (refine Wd_isMv rfl ?_; refine Ymv eok rfl rfl (fun _ => rfl) rfl rfl ?_)
      | refine Yp eok rfl rfl (fun _ => rfl) rfl rfl ?_ ?_
      | refine Yq rfl rfl rfl rfl rfl ?_ ?_
      | refine Ys rfl rfl rfl rfl ?_
      | refine YF (cG) rfl rfl rfl rfl rfl ?_
      | refine YF (cH) rfl rfl rfl rfl rfl ?_
      | refine YF (wakes_fn) rfl rfl rfl rfl rfl ?_
      | refine Ya eok rfl rfl rfl rfl rfl rfl ?_ ?_
      | refine Yw eok rfl rfl rfl rfl rfl ?_ ?_
      | refine Yn [0, 1, 4, 5, 6, 7, 8, 9, 10, 11, 12, 13, 29, 81, 87, 102] [] mixed eok (by kernel_rfl) True.intro rfl ?_
      | (refine Ysplit rfl rfl (fun hc => ?_) (fun hc => ?_) <;> (fail_if_success (with_reducible first | exact absurd (hc : true = false) (by decide) | exact absurd (hc : false = true) (by decide))) <;> (try simp only [decide_eq_true_eq, decide_eq_false_iff_not, Bool.not_eq_true', Bool.not_eq_false', beq_iff_eq, beq_eq_false_iff_ne, bne_iff_ne, bne_eq_false_iff_eq, ne_eq, Int.not_lt, Int.not_le, ge_iff_le, gt_iff_lt] at hc) <;> (try (exfalso; omega))))
     | refine W_seq ?_
     | refine W_region ?_
     | refine W_any T.get ?_
     | refine W_skip ?_
     | refine W_ret ?_
     | refine W_block ?_
     | refine W_exit ?_
     | refine W_cond_t rfl ?_
     | refine W_cond_f rfl ?_
     | (refine W_cond rfl (fun hc => ?_) (fun hc => ?_) <;> (try simp only [decide_eq_true_eq, decide_eq_false_iff_not, Bool.not_eq_true', Bool.not_eq_false', beq_iff_eq, beq_eq_false_iff_ne, bne_iff_ne, bne_eq_false_iff_eq, ne_eq, Int.not_lt, Int.not_le, ge_iff_le, gt_iff_lt] at hc) <;> (try (exfalso; omega))))
    refine ⟨_, _, rfl, rfl, ?_⟩; simp [Frz_tup, Frz_ag, Frzs_cons, Frzs_nil, Frz_d, Frz_e0, Frz_sl, sln, isSl, slOk]
  have nS := True.intro
  repeat' (first
   | ((with_reducible refine sg ?_); first
    | with_reducible rfl
    | ((with_reducible refine fitG ?_); first | kernel_rfl | rfl | (simp [fitT, fitF, nS]; done))
    | with_reducible refine andT ?_ ?_
    | with_reducible exact Nat.beq_refl _
    | with_reducible exact fitsI_u8 _
    | ((with_reducible refine decide_eq_true ?_); first | omega | (simp only [SZl, nS]; omega))
    | decide
    | (simp [SZl, slc, allOneD, D.one, allOne, AV.one, nS]; done)
    | (simp [SZl, nS]; omega))
   | ((with_reducible refine gWl ?_); first
    | (refine Wl_isMv rfl ?_; refine Xmv eok rfl rfl rfl rfl ?_)
    | refine XaoL [33] eok rfl rfl rfl rfl rfl rfl ?_ ?_
    | refine Xq eok rfl rfl rfl rfl ?_ ?_
    | refine Xn [0, 1, 4, 5, 6, 7, 8, 9, 10, 11, 12, 13, 29, 81, 87, 102] rfl ?_
    | refine XF (cG) rfl rfl rfl rfl ?_
    | refine XF (cH) rfl rfl rfl rfl ?_
    | refine XF (wakes_fn) rfl rfl rfl rfl ?_
    | refine Xa eok rfl rfl rfl rfl rfl ?_ ?_
    | refine Xw eok rfl rfl rfl rfl ?_ ?_
    | refine Xs rfl rfl rfl ?_
    | (refine Xsplit rfl rfl (fun hc => ?_) (fun hc => ?_) <;> (fail_if_success (with_reducible first | exact absurd (hc : true = false) (by decide) | exact absurd (hc : false = true) (by decide))) <;> (try simp only [decide_eq_true_eq, decide_eq_false_iff_not, Bool.not_eq_true', Bool.not_eq_false', beq_iff_eq, beq_eq_false_iff_ne, bne_iff_ne, bne_eq_false_iff_eq, ne_eq, Int.not_lt, Int.not_le, ge_iff_le, gt_iff_lt] at hc) <;> (try (exfalso; omega))))
   | ((with_reducible refine gWd ?_); first
    | (refine Wd_isMv rfl ?_; refine Ymv eok rfl rfl (fun _ => rfl) rfl rfl ?_)
    | refine YaoL [33] eok rfl rfl rfl rfl rfl rfl rfl ?_ ?_
    | refine Yp eok rfl rfl (fun _ => rfl) rfl rfl ?_ ?_
    | refine Yq rfl rfl rfl rfl rfl ?_ ?_
    | refine Ys rfl rfl rfl rfl ?_
    | refine YF (cG) rfl rfl rfl rfl rfl ?_
    | refine YF (cH) rfl rfl rfl rfl rfl ?_
    | refine YF (wakes_fn) rfl rfl rfl rfl rfl ?_
    | refine Ya eok rfl rfl rfl rfl rfl rfl ?_ ?_
    | refine Yw eok rfl rfl rfl rfl rfl ?_ ?_
    | refine Yn [0, 1, 4, 5, 6, 7, 8, 9, 10, 11, 12, 13, 29, 81, 87, 102] [] mixed eok (by kernel_rfl) True.intro rfl ?_
    | (refine Ysplit rfl rfl (fun hc => ?_) (fun hc => ?_) <;> (fail_if_success (with_reducible first | exact absurd (hc : true = false) (by decide) | exact absurd (hc : false = true) (by decide))) <;> (try simp only [decide_eq_true_eq, decide_eq_false_iff_not, Bool.not_eq_true', Bool.not_eq_false', beq_iff_eq, beq_eq_false_iff_ne, bne_iff_ne, bne_eq_false_iff_eq, ne_eq, Int.not_lt, Int.not_le, ge_iff_le, gt_iff_lt] at hc) <;> (try (exfalso; omega))))
   | refine W_seq ?_
   | refine W_regionS [4] rfl ?_
   | refine W_anyS [4] T.get rfl ?_
   | refine W_skip ?_
   | refine W_ret ?_
   | refine W_block ?_
   | refine W_exit ?_
   | refine W_cond_t rfl ?_
   | refine W_cond_f rfl ?_
   | (refine W_cond rfl (fun hc => ?_) (fun hc => ?_) <;> (try simp only [decide_eq_true_eq, decide_eq_false_iff_not, Bool.not_eq_true', Bool.not_eq_false', beq_iff_eq, beq_eq_false_iff_ne, bne_iff_ne, bne_eq_false_iff_eq, ne_eq, Int.not_lt, Int.not_le, ge_iff_le, gt_iff_lt] at hc) <;> (try (exfalso; omega))))
  rw [← List.map_append]
  refine W_ghost (TSub.frz1 5 0 (x := itemsD (l ++ m)) rfl rfl rfl) (by simp [frzH]) ?_
  have hlen : (l ++ m).length ≤ 40 := by rw [List.length_append]; omega
  have cL := Newest_fn l (by omega)
  have cM := Newest_fn m (by omega)
  have cA := Newest_fn (l ++ m) (by omega)
  obtain ⟨xa, xn, xm, xt⟩ := nw_ok l
  obtain ⟨ya, yn, ym, yt⟩ := nw_ok m
  obtain ⟨za, zn, zm, zt⟩ := nw_ok (l ++ m)
  rw [List.any_append, ← xa, ← ya] at za
  have cX := Newer_fn (nwT l).1 (nwT (l ++ m)).1
  have cY := Newer_fn (nwT m).1 (nwT (l ++ m)).1
  have hX : (nwT l).2 = true → decide (cmpT (nwT l).1 (nwT (l ++ m)).1 > 0) = false := fun h => not_newer_dec (zt _ (List.mem_append_left _ (xm h).1) (xm h).2)
  have hY : (nwT m).2 = true → decide (cmpT (nwT m).1 (nwT (l ++ m)).1 > 0) = false := fun h => not_newer_dec (zt _ (List.mem_append_right _ (ym h).1) (ym h).2)
  generalize nwT l = xx at *
  generalize nwT m = yy at *
  generalize nwT (l ++ m) = zz at *
  generalize hall : l ++ m = all at *
  obtain ⟨⟨xk, xv, xw, xg⟩, xf⟩ := xx
  obtain ⟨⟨yk, yv, yw, yg⟩, yf⟩ := yy
  obtain ⟨z, zf⟩ := zz
  simp only at za zn zm zt hX hY cX cY cL cM cA xa ya
  obtain ⟨zk, zv, zw, zg⟩ := z
  cases zf with
  | true =>
    obtain ⟨zm1, zm2⟩ := zm rfl
    cases xf with
    | true =>
      rw [hX rfl] at cX
      cases yf with
      | true =>
        rw [hY rfl] at cY
        have nS := True.intro
        repeat' (first
         | ((with_reducible refine sg ?_); first
          | with_reducible rfl
          | ((with_reducible refine fitG ?_); first | kernel_rfl | rfl | (simp [fitT, fitF, nS]; done))
          | with_reducible refine andT ?_ ?_
          | with_reducible exact Nat.beq_refl _
          | with_reducible exact fitsI_u8 _
          | ((with_reducible refine decide_eq_true ?_); first | omega | (simp only [SZl, nS]; omega))
          | decide
          | (simp [SZl, slc, allOneD, D.one, allOne, AV.one, nS]; done)
          | (simp [SZl, nS]; omega))
         | ((with_reducible refine gWl ?_); first
          | (refine Wl_isMv rfl ?_; refine Xmv eok rfl rfl rfl rfl ?_)
          | refine Xq eok rfl rfl rfl rfl ?_ ?_
          | refine Xn [0, 1, 4, 5, 6, 7, 8, 9, 10, 11, 12, 13, 29, 81, 87, 102] rfl ?_
          | refine XF (cL) rfl rfl rfl rfl ?_
          | refine XF (cM) rfl rfl rfl rfl ?_
          | refine XF (cA) rfl rfl rfl rfl ?_
          | refine XF (cX) rfl rfl rfl rfl ?_
          | refine XF (cY) rfl rfl rfl rfl ?_
          | refine Xa eok rfl rfl rfl rfl rfl ?_ ?_
          | refine Xw eok rfl rfl rfl rfl ?_ ?_
          | refine Xs rfl rfl rfl ?_
          | (refine Xsplit rfl rfl (fun hc => ?_) (fun hc => ?_) <;> (fail_if_success (with_reducible first | exact absurd (hc : true = false) (by decide) | exact absurd (hc : false = true) (by decide))) <;> (try simp only [decide_eq_true_eq, decide_eq_false_iff_not, Bool.not_eq_true', Bool.not_eq_false', beq_iff_eq, beq_eq_false_iff_ne, bne_iff_ne, bne_eq_false_iff_eq, ne_eq, Int.not_lt, Int.not_le, ge_iff_le, gt_iff_lt] at hc) <;> (try (exfalso; omega))))
         | ((with_reducible refine gWd ?_); first
          | (refine Wd_isMv rfl ?_; refine Ymv eok rfl rfl (fun _ => rfl) rfl rfl ?_)
          | refine Yp eok rfl rfl (fun _ => rfl) rfl rfl ?_ ?_
          | refine Yq rfl rfl rfl rfl rfl ?_ ?_
          | refine Ys rfl rfl rfl rfl ?_
          | refine YF (cL) rfl rfl rfl rfl rfl ?_
          | refine YF (cM) rfl rfl rfl rfl rfl ?_
          | refine YF (cA) rfl rfl rfl rfl rfl ?_
          | refine YF (cX) rfl rfl rfl rfl rfl ?_
          | refine YF (cY) rfl rfl rfl rfl rfl ?_
          | refine Ya eok rfl rfl rfl rfl rfl rfl ?_ ?_
          | refine Yw eok rfl rfl rfl rfl rfl ?_ ?_
          | refine Yn [0, 1, 4, 5, 6, 7, 8, 9, 10, 11, 12, 13, 29, 81, 87, 102] [] mixed eok (by kernel_rfl) True.intro rfl ?_
          | (refine Ysplit rfl rfl (fun hc => ?_) (fun hc => ?_) <;> (fail_if_success (with_reducible first | exact absurd (hc : true = false) (by decide) | exact absurd (hc : false = true) (by decide))) <;> (try simp only [decide_eq_true_eq, decide_eq_false_iff_not, Bool.not_eq_true', Bool.not_eq_false', beq_iff_eq, beq_eq_false_iff_ne, bne_iff_ne, bne_eq_false_iff_eq, ne_eq, Int.not_lt, Int.not_le, ge_iff_le, gt_iff_lt] at hc) <;> (try (exfalso; omega))))
         | refine W_seq ?_
         | refine W_region ?_
         | refine W_any T.get ?_
         | refine W_skip ?_
         | refine W_ret ?_
         | refine W_block ?_
         | refine W_exit ?_
         | refine W_cond_t rfl ?_
         | refine W_cond_f rfl ?_
         | (refine W_cond rfl (fun hc => ?_) (fun hc => ?_) <;> (try simp only [decide_eq_true_eq, decide_eq_false_iff_not, Bool.not_eq_true', Bool.not_eq_false', beq_iff_eq, beq_eq_false_iff_ne, bne_iff_ne, bne_eq_false_iff_eq, ne_eq, Int.not_lt, Int.not_le, ge_iff_le, gt_iff_lt] at hc) <;> (try (exfalso; omega))))
        refine W_loopI (fun k => k ≤ all.length) (fun k : Nat => ⟨[(4, .d (.b false)), (5, .d (itemsD all)), (10, .ptr 3 0 4), (11, .d (.b true)), (12, .d (.b (inT ⟨zk, zv, zw, zg⟩ all k))), (13, .d (.i .i64 k))], [.gone, .gone, .gone, .c [.d (.s zk), .d (.i .i64 zv), .d (.i .i64 zw), .d (.b zg)]], 124⟩) (fun k => all.length - k) 0 (Nat.zero_le _) ?_ (Nat.le_of_ble_eq_true rfl) ?_
        · exact TSub.cut rfl (by repeat' (first | exact True.intro | refine And.intro (by (first | rfl | ((with_reducible_and_instances refine congrArg (fun z => some (AV.d (D.i _ z))) ?_); omega) | (refine congrArg (fun z => some (AV.d (D.i _ z))) (?_ : (_ : Int) = _); omega) | (refine congrArg some ?_; simp only [inT, List.take_zero, List.any_nil]; done) | (refine congrArg some ?_; simp [inT, List.take_zero, List.any_nil]; done))) ?_)) (by repeat' (first | exact True.intro | refine And.intro (Or.inr rfl) ?_ | refine And.intro (Or.inl ⟨rfl, rfl⟩) ?_ | refine And.intro (Or.inr (by simp only [inT, List.take_zero, List.any_nil])) ?_ | refine And.intro (Or.inr (by simp [inT, List.take_zero, List.any_nil])) ?_)) (by first | rfl | (simp (decide := true) [heapOk, Blk.ok, AV.oks, AV.ok, hk]; done)) rfl
        intro k hk
        by_cases hkl : k < all.length
        · obtain ⟨x, hx⟩ := get_of hkl
          have hn := inT_succ (z := ⟨zk, zv, zw, zg⟩) hx
          have cP := rPair_fn x
          have cN := Newer_fn x ⟨zk, zv, zw, zg⟩
          have hE := item_eqX x ⟨zk, zv, zw, zg⟩
          generalize inT ⟨zk, zv, zw, zg⟩ all k = p at *
          cases hm : x.may with
          | true =>
            rw [hm] at cP
            rw [not_newer_dec (zt x (List.mem_of_getElem? hx) hm)] at cN
            cases p with
            | true =>
              have nS := hE
              repeat' (first
               | ((with_reducible refine sg ?_); first
                | with_reducible rfl
                | ((with_reducible refine fitG ?_); first | kernel_rfl | rfl | (simp [fitT, fitF, nS]; done))
                | with_reducible refine andT ?_ ?_
                | with_reducible exact Nat.beq_refl _
                | with_reducible exact fitsI_u8 _
                | ((with_reducible refine decide_eq_true ?_); first | omega | (simp only [SZl, nS]; omega))
                | decide
                | (simp [SZl, slc, allOneD, D.one, allOne, AV.one, nS]; done)
                | (simp [SZl, nS]; omega))
               | ((with_reducible refine gWl ?_); first
                | (refine Wl_isMv rfl ?_; refine Xmv eok rfl rfl rfl rfl ?_)
                | (refine Wl_isIx rfl ?_; refine Xix eok rfl rfl rfl rfl rfl (Int.natCast_nonneg _) (ix_map hx) ?_)
                | refine Xq eok rfl rfl rfl rfl ?_ ?_
                | refine Xn [0, 1, 4, 5, 6, 7, 8, 9, 10, 11, 12, 13, 29, 81, 87, 102] rfl ?_
                | refine XF (cP) rfl rfl rfl rfl ?_
                | refine XF (cN) rfl rfl rfl rfl ?_
                | refine Xa eok rfl rfl rfl rfl rfl ?_ ?_
                | refine Xw eok rfl rfl rfl rfl ?_ ?_
                | refine Xs rfl rfl rfl ?_
                | (refine Xsplit rfl rfl (fun hc => ?_) (fun hc => ?_) <;> (fail_if_success (with_reducible first | exact absurd (hc : true = false) (by decide) | exact absurd (hc : false = true) (by decide))) <;> (try simp only [decide_eq_true_eq, decide_eq_false_iff_not, Bool.not_eq_true', Bool.not_eq_false', beq_iff_eq, beq_eq_false_iff_ne, bne_iff_ne, bne_eq_false_iff_eq, ne_eq, Int.not_lt, Int.not_le, ge_iff_le, gt_iff_lt] at hc) <;> (try (exfalso; omega))))
               | ((with_reducible refine gWd ?_); first
                | (refine Wd_isMv rfl ?_; refine Ymv eok rfl rfl (fun _ => rfl) rfl rfl ?_)
                | (refine Wd_isIx rfl ?_; refine Yix eok rfl rfl (fun _ => rfl) rfl rfl rfl (Int.natCast_nonneg _) (ix_map hx) ?_)
                | refine Yp eok rfl rfl (fun _ => rfl) rfl rfl ?_ ?_
                | refine Yq rfl rfl rfl rfl rfl ?_ ?_
                | refine Ys rfl rfl rfl rfl ?_
                | refine YF (cP) rfl rfl rfl rfl rfl ?_
                | refine YF (cN) rfl rfl rfl rfl rfl ?_
                | refine Ya eok rfl rfl rfl rfl rfl rfl ?_ ?_
                | refine Yw eok rfl rfl rfl rfl rfl ?_ ?_
                | refine Yn [0, 1, 4, 5, 6, 7, 8, 9, 10, 11, 12, 13, 29, 81, 87, 102] [] mixed eok (by kernel_rfl) True.intro rfl ?_
                | (refine Ysplit rfl rfl (fun hc => ?_) (fun hc => ?_) <;> (fail_if_success (with_reducible first | exact absurd (hc : true = false) (by decide) | exact absurd (hc : false = true) (by decide))) <;> (try simp only [decide_eq_true_eq, decide_eq_false_iff_not, Bool.not_eq_true', Bool.not_eq_false', beq_iff_eq, beq_eq_false_iff_ne, bne_iff_ne, bne_eq_false_iff_eq, ne_eq, Int.not_lt, Int.not_le, ge_iff_le, gt_iff_lt] at hc) <;> (try (exfalso; omega))))
               | refine W_seq ?_
               | refine W_region ?_
               | refine W_any T.get ?_
               | refine W_skip ?_
               | refine W_ret ?_
               | refine W_block ?_
               | refine W_exit ?_
               | refine W_cond_t rfl ?_
               | refine W_cond_f rfl ?_
               | (refine W_cond rfl (fun hc => ?_) (fun hc => ?_) <;> (try simp only [decide_eq_true_eq, decide_eq_false_iff_not, Bool.not_eq_true', Bool.not_eq_false', beq_iff_eq, beq_eq_false_iff_ne, bne_iff_ne, bne_eq_false_iff_eq, ne_eq, Int.not_lt, Int.not_le, ge_iff_le, gt_iff_lt] at hc) <;> (try (exfalso; omega))))
              refine ⟨k + 1, hkl, by omega, Nat.le_refl _, ?_⟩
              exact TSub.cut rfl (by repeat' (first | exact True.intro | refine And.intro (by (first | rfl | ((with_reducible_and_instances refine congrArg (fun z => some (AV.d (D.i _ z))) ?_); omega) | (refine congrArg (fun z => some (AV.d (D.i _ z))) (?_ : (_ : Int) = _); omega) | (refine congrArg some ?_; simp only [hn, Bool.true_or]; done) | (refine congrArg some ?_; simp [hn, Bool.true_or]; done))) ?_)) (by repeat' (first | exact True.intro | refine And.intro (Or.inr rfl) ?_ | refine And.intro (Or.inl ⟨rfl, rfl⟩) ?_ | refine And.intro (Or.inr (by simp only [hn, Bool.true_or])) ?_ | refine And.intro (Or.inr (by simp [hn, Bool.true_or])) ?_)) (by first | rfl | (simp (decide := true) [heapOk, Blk.ok, AV.oks, AV.ok, hk]; done)) rfl
            | false =>
              have nS := hE
              repeat' (first
               | ((with_reducible refine sg ?_); first
                | with_reducible rfl
                | ((with_reducible refine fitG ?_); first | kernel_rfl | rfl | (simp [fitT, fitF, nS]; done))
                | with_reducible refine andT ?_ ?_
                | with_reducible exact Nat.beq_refl _
                | with_reducible exact fitsI_u8 _
                | ((with_reducible refine decide_eq_true ?_); first | omega | (simp only [SZl, nS]; omega))
                | decide
                | (simp [SZl, slc, allOneD, D.one, allOne, AV.one, nS]; done)
                | (simp [SZl, nS]; omega))
               | ((with_reducible refine gWl ?_); first
                | (refine Wl_isMv rfl ?_; refine Xmv eok rfl rfl rfl rfl ?_)
                | (refine Wl_isIx rfl ?_; refine Xix eok rfl rfl rfl rfl rfl (Int.natCast_nonneg _) (ix_map hx) ?_)
                | refine Xq eok rfl rfl rfl rfl ?_ ?_
                | refine Xn [0, 1, 4, 5, 6, 7, 8, 9, 10, 11, 12, 13, 29, 81, 87, 102] rfl ?_
                | refine XF (cP) rfl rfl rfl rfl ?_
                | refine XF (cN) rfl rfl rfl rfl ?_
                | refine Xa eok rfl rfl rfl rfl rfl ?_ ?_
                | refine Xw eok rfl rfl rfl rfl ?_ ?_
                | refine Xs rfl rfl rfl ?_
                | (refine Xsplit rfl rfl (fun hc => ?_) (fun hc => ?_) <;> (fail_if_success (with_reducible first | exact absurd (hc : true = false) (by decide) | exact absurd (hc : false = true) (by decide))) <;> (try simp only [decide_eq_true_eq, decide_eq_false_iff_not, Bool.not_eq_true', Bool.not_eq_false', beq_iff_eq, beq_eq_false_iff_ne, bne_iff_ne, bne_eq_false_iff_eq, ne_eq, Int.not_lt, Int.not_le, ge_iff_le, gt_iff_lt] at hc) <;> (try (exfalso; omega))))
               | ((with_reducible refine gWd ?_); first
                | (refine Wd_isMv rfl ?_; refine Ymv eok rfl rfl (fun _ => rfl) rfl rfl ?_)
                | (refine Wd_isIx rfl ?_; refine Yix eok rfl rfl (fun _ => rfl) rfl rfl rfl (Int.natCast_nonneg _) (ix_map hx) ?_)
                | refine Yp eok rfl rfl (fun _ => rfl) rfl rfl ?_ ?_
                | refine Yq rfl rfl rfl rfl rfl ?_ ?_
                | refine Ys rfl rfl rfl rfl ?_
                | refine YF (cP) rfl rfl rfl rfl rfl ?_
                | refine YF (cN) rfl rfl rfl rfl rfl ?_
                | refine Ya eok rfl rfl rfl rfl rfl rfl ?_ ?_
                | refine Yw eok rfl rfl rfl rfl rfl ?_ ?_
                | refine Yn [0, 1, 4, 5, 6, 7, 8, 9, 10, 11, 12, 13, 29, 81, 87, 102] [] mixed eok (by kernel_rfl) True.intro rfl ?_
                | (refine Ysplit rfl rfl (fun hc => ?_) (fun hc => ?_) <;> (fail_if_success (with_reducible first | exact absurd (hc : true = false) (by decide) | exact absurd (hc : false = true) (by decide))) <;> (try simp only [decide_eq_true_eq, decide_eq_false_iff_not, Bool.not_eq_true', Bool.not_eq_false', beq_iff_eq, beq_eq_false_iff_ne, bne_iff_ne, bne_eq_false_iff_eq, ne_eq, Int.not_lt, Int.not_le, ge_iff_le, gt_iff_lt] at hc) <;> (try (exfalso; omega))))
               | refine W_seq ?_
               | refine W_region ?_
               | refine W_any T.get ?_
               | refine W_skip ?_
               | refine W_ret ?_
               | refine W_block ?_
               | refine W_exit ?_
               | refine W_cond_t rfl ?_
               | refine W_cond_f rfl ?_
               | (refine W_cond rfl (fun hc => ?_) (fun hc => ?_) <;> (try simp only [decide_eq_true_eq, decide_eq_false_iff_not, Bool.not_eq_true', Bool.not_eq_false', beq_iff_eq, beq_eq_false_iff_ne, bne_iff_ne, bne_eq_false_iff_eq, ne_eq, Int.not_lt, Int.not_le, ge_iff_le, gt_iff_lt] at hc) <;> (try (exfalso; omega))))
              refine ⟨k + 1, hkl, by omega, Nat.le_refl _, ?_⟩
              exact TSub.cut rfl (by repeat' (first | exact True.intro | refine And.intro (by (first | rfl | ((with_reducible_and_instances refine congrArg (fun z => some (AV.d (D.i _ z))) ?_); omega) | (refine congrArg (fun z => some (AV.d (D.i _ z))) (?_ : (_ : Int) = _); omega) | (refine congrArg some ?_; simp only [hn, Bool.false_or]; done) | (refine congrArg some ?_; simp [hn, Bool.false_or]; done))) ?_)) (by repeat' (first | exact True.intro | refine And.intro (Or.inr rfl) ?_ | refine And.intro (Or.inl ⟨rfl, rfl⟩) ?_ | refine And.intro (Or.inr (by simp only [hn, Bool.false_or])) ?_ | refine And.intro (Or.inr (by simp [hn, Bool.false_or])) ?_)) (by first | rfl | (simp (decide := true) [heapOk, Blk.ok, AV.oks, AV.ok, hk]; done)) rfl
          | false =>
            rw [hm] at cP
            cases p with
            | true =>
              have nS := hE
              repeat' (first
               | ((with_reducible refine sg ?_); first
                | with_reducible rfl
                | ((with_reducible refine fitG ?_); first | kernel_rfl | rfl | (simp [fitT, fitF, nS]; done))
                | with_reducible refine andT ?_ ?_
                | with_reducible exact Nat.beq_refl _
                | with_reducible exact fitsI_u8 _
                | ((with_reducible refine decide_eq_true ?_); first | omega | (simp only [SZl, nS]; omega))
                | decide
                | (simp [SZl, slc, allOneD, D.one, allOne, AV.one, nS]; done)
                | (simp [SZl, nS]; omega))
               | ((with_reducible refine gWl ?_); first
                | (refine Wl_isMv rfl ?_; refine Xmv eok rfl rfl rfl rfl ?_)
                | (refine Wl_isIx rfl ?_; refine Xix eok rfl rfl rfl rfl rfl (Int.natCast_nonneg _) (ix_map hx) ?_)
                | refine Xq eok rfl rfl rfl rfl ?_ ?_
                | refine Xn [0, 1, 4, 5, 6, 7, 8, 9, 10, 11, 12, 13, 29, 81, 87, 102] rfl ?_
                | refine XF (cP) rfl rfl rfl rfl ?_
                | refine XF (cN) rfl rfl rfl rfl ?_
                | refine Xa eok rfl rfl rfl rfl rfl ?_ ?_
                | refine Xw eok rfl rfl rfl rfl ?_ ?_
                | refine Xs rfl rfl rfl ?_
                | (refine Xsplit rfl rfl (fun hc => ?_) (fun hc => ?_) <;> (fail_if_success (with_reducible first | exact absurd (hc : true = false) (by decide) | exact absurd (hc : false = true) (by decide))) <;> (try simp only [decide_eq_true_eq, decide_eq_false_iff_not, Bool.not_eq_true', Bool.not_eq_false', beq_iff_eq, beq_eq_false_iff_ne, bne_iff_ne, bne_eq_false_iff_eq, ne_eq, Int.not_lt, Int.not_le, ge_iff_le, gt_iff_lt] at hc) <;> (try (exfalso; omega))))
               | ((with_reducible refine gWd ?_); first
                | (refine Wd_isMv rfl ?_; refine Ymv eok rfl rfl (fun _ => rfl) rfl rfl ?_)
                | (refine Wd_isIx rfl ?_; refine Yix eok rfl rfl (fun _ => rfl) rfl rfl rfl (Int.natCast_nonneg _) (ix_map hx) ?_)
                | refine Yp eok rfl rfl (fun _ => rfl) rfl rfl ?_ ?_
                | refine Yq rfl rfl rfl rfl rfl ?_ ?_
                | refine Ys rfl rfl rfl rfl ?_
                | refine YF (cP) rfl rfl rfl rfl rfl ?_
                | refine YF (cN) rfl rfl rfl rfl rfl ?_
                | refine Ya eok rfl rfl rfl rfl rfl rfl ?_ ?_
                | refine Yw eok rfl rfl rfl rfl rfl ?_ ?_
                | refine Yn [0, 1, 4, 5, 6, 7, 8, 9, 10, 11, 12, 13, 29, 81, 87, 102] [] mixed eok (by kernel_rfl) True.intro rfl ?_
                | (refine Ysplit rfl rfl (fun hc => ?_) (fun hc => ?_) <;> (fail_if_success (with_reducible first | exact absurd (hc : true = false) (by decide) | exact absurd (hc : false = true) (by decide))) <;> (try simp only [decide_eq_true_eq, decide_eq_false_iff_not, Bool.not_eq_true', Bool.not_eq_false', beq_iff_eq, beq_eq_false_iff_ne, bne_iff_ne, bne_eq_false_iff_eq, ne_eq, Int.not_lt, Int.not_le, ge_iff_le, gt_iff_lt] at hc) <;> (try (exfalso; omega))))
               | refine W_seq ?_
               | refine W_region ?_
               | refine W_any T.get ?_
               | refine W_skip ?_
               | refine W_ret ?_
               | refine W_block ?_
               | refine W_exit ?_
               | refine W_cond_t rfl ?_
               | refine W_cond_f rfl ?_
               | (refine W_cond rfl (fun hc => ?_) (fun hc => ?_) <;> (try simp only [decide_eq_true_eq, decide_eq_false_iff_not, Bool.not_eq_true', Bool.not_eq_false', beq_iff_eq, beq_eq_false_iff_ne, bne_iff_ne, bne_eq_false_iff_eq, ne_eq, Int.not_lt, Int.not_le, ge_iff_le, gt_iff_lt] at hc) <;> (try (exfalso; omega))))
              refine ⟨k + 1, hkl, by omega, Nat.le_refl _, ?_⟩
              exact TSub.cut rfl (by repeat' (first | exact True.intro | refine And.intro (by (first | rfl | ((with_reducible_and_instances refine congrArg (fun z => some (AV.d (D.i _ z))) ?_); omega) | (refine congrArg (fun z => some (AV.d (D.i _ z))) (?_ : (_ : Int) = _); omega) | (refine congrArg some ?_; simp only [hn, Bool.true_or]; done) | (refine congrArg some ?_; simp [hn, Bool.true_or]; done))) ?_)) (by repeat' (first | exact True.intro | refine And.intro (Or.inr rfl) ?_ | refine And.intro (Or.inl ⟨rfl, rfl⟩) ?_ | refine And.intro (Or.inr (by simp only [hn, Bool.true_or])) ?_ | refine And.intro (Or.inr (by simp [hn, Bool.true_or])) ?_)) (by first | rfl | (simp (decide := true) [heapOk, Blk.ok, AV.oks, AV.ok, hk]; done)) rfl
            | false =>
              have nS := hE
              repeat' (first
               | ((with_reducible refine sg ?_); first
                | with_reducible rfl
                | ((with_reducible refine fitG ?_); first | kernel_rfl | rfl | (simp [fitT, fitF, nS]; done))
                | with_reducible refine andT ?_ ?_
                | with_reducible exact Nat.beq_refl _
                | with_reducible exact fitsI_u8 _
                | ((with_reducible refine decide_eq_true ?_); first | omega | (simp only [SZl, nS]; omega))
                | decide
                | (simp [SZl, slc, allOneD, D.one, allOne, AV.one, nS]; done)
                | (simp [SZl, nS]; omega))
               | ((with_reducible refine gWl ?_); first
                | (refine Wl_isMv rfl ?_; refine Xmv eok rfl rfl rfl rfl ?_)
                | (refine Wl_isIx rfl ?_; refine Xix eok rfl rfl rfl rfl rfl (Int.natCast_nonneg _) (ix_map hx) ?_)
                | refine Xq eok rfl rfl rfl rfl ?_ ?_
                | refine Xn [0, 1, 4, 5, 6, 7, 8, 9, 10, 11, 12, 13, 29, 81, 87, 102] rfl ?_
                | refine XF (cP) rfl rfl rfl rfl ?_
                | refine XF (cN) rfl rfl rfl rfl ?_
                | refine Xa eok rfl rfl rfl rfl rfl ?_ ?_
                | refine Xw eok rfl rfl rfl rfl ?_ ?_
                | refine Xs rfl rfl rfl ?_
                | (refine Xsplit rfl rfl (fun hc => ?_) (fun hc => ?_) <;> (fail_if_success (with_reducible first | exact absurd (hc : true = false) (by decide) | exact absurd (hc : false = true) (by decide))) <;> (try simp only [decide_eq_true_eq, decide_eq_false_iff_not, Bool.not_eq_true', Bool.not_eq_false', beq_iff_eq, beq_eq_false_iff_ne, bne_iff_ne, bne_eq_false_iff_eq, ne_eq, Int.not_lt, Int.not_le, ge_iff_le, gt_iff_lt] at hc) <;> (try (exfalso; omega))))
               | ((with_reducible refine gWd ?_); first
                | (refine Wd_isMv rfl ?_; refine Ymv eok rfl rfl (fun _ => rfl) rfl rfl ?_)
                | (refine Wd_isIx rfl ?_; refine Yix eok rfl rfl (fun _ => rfl) rfl rfl rfl (Int.natCast_nonneg _) (ix_map hx) ?_)
                | refine Yp eok rfl rfl (fun _ => rfl) rfl rfl ?_ ?_
                | refine Yq rfl rfl rfl rfl rfl ?_ ?_
                | refine Ys rfl rfl rfl rfl ?_
                | refine YF (cP) rfl rfl rfl rfl rfl ?_
                | refine YF (cN) rfl rfl rfl rfl rfl ?_
                | refine Ya eok rfl rfl rfl rfl rfl rfl ?_ ?_
                | refine Yw eok rfl rfl rfl rfl rfl ?_ ?_
                | refine Yn [0, 1, 4, 5, 6, 7, 8, 9, 10, 11, 12, 13, 29, 81, 87, 102] [] mixed eok (by kernel_rfl) True.intro rfl ?_
                | (refine Ysplit rfl rfl (fun hc => ?_) (fun hc => ?_) <;> (fail_if_success (with_reducible first | exact absurd (hc : true = false) (by decide) | exact absurd (hc : false = true) (by decide))) <;> (try simp only [decide_eq_true_eq, decide_eq_false_iff_not, Bool.not_eq_true', Bool.not_eq_false', beq_iff_eq, beq_eq_false_iff_ne, bne_iff_ne, bne_eq_false_iff_eq, ne_eq, Int.not_lt, Int.not_le, ge_iff_le, gt_iff_lt] at hc) <;> (try (exfalso; omega))))
               | refine W_seq ?_
               | refine W_region ?_
               | refine W_any T.get ?_
               | refine W_skip ?_
               | refine W_ret ?_
               | refine W_block ?_
               | refine W_exit ?_
               | refine W_cond_t rfl ?_
               | refine W_cond_f rfl ?_
               | (refine W_cond rfl (fun hc => ?_) (fun hc => ?_) <;> (try simp only [decide_eq_true_eq, decide_eq_false_iff_not, Bool.not_eq_true', Bool.not_eq_false', beq_iff_eq, beq_eq_false_iff_ne, bne_iff_ne, bne_eq_false_iff_eq, ne_eq, Int.not_lt, Int.not_le, ge_iff_le, gt_iff_lt] at hc) <;> (try (exfalso; omega))))
              refine ⟨k + 1, hkl, by omega, Nat.le_refl _, ?_⟩
              exact TSub.cut rfl (by repeat' (first | exact True.intro | refine And.intro (by (first | rfl | ((with_reducible_and_instances refine congrArg (fun z => some (AV.d (D.i _ z))) ?_); omega) | (refine congrArg (fun z => some (AV.d (D.i _ z))) (?_ : (_ : Int) = _); omega) | (refine congrArg some ?_; simp only [hn, Bool.false_or]; done) | (refine congrArg some ?_; simp [hn, Bool.false_or]; done))) ?_)) (by repeat' (first | exact True.intro | refine And.intro (Or.inr rfl) ?_ | refine And.intro (Or.inl ⟨rfl, rfl⟩) ?_ | refine And.intro (Or.inr (by simp only [hn, Bool.false_or])) ?_ | refine And.intro (Or.inr (by simp [hn, Bool.false_or])) ?_)) (by first | rfl | (simp (decide := true) [heapOk, Blk.ok, AV.oks, AV.ok, hk]; done)) rfl
        · have e : k = all.length := by omega
          subst e
          have hI : inT ⟨zk, zv, zw, zg⟩ all all.length = true := by
            unfold inT; rw [List.take_length, List.any_eq_true]; exact ⟨_, zm1, decide_eq_true rfl⟩
          have cZ := rPair_fn ⟨zk, zv, zw, zg⟩
          rw [zm2] at cZ
          rw [hI]
          have nS := True.intro
          repeat' (first
           | ((with_reducible refine sg ?_); first
            | with_reducible rfl
            | ((with_reducible refine fitG ?_); first | kernel_rfl | rfl | (simp [fitT, fitF, nS]; done))
            | with_reducible refine andT ?_ ?_
            | with_reducible exact Nat.beq_refl _
            | with_reducible exact fitsI_u8 _
            | ((with_reducible refine decide_eq_true ?_); first | omega | (simp only [SZl, nS]; omega))
            | decide
            | (simp [SZl, slc, allOneD, D.one, allOne, AV.one, nS]; done)
            | (simp [SZl, nS]; omega))
           | ((with_reducible refine gWl ?_); first
            | (refine Wl_isMv rfl ?_; refine Xmv eok rfl rfl rfl rfl ?_)
            | refine Xq eok rfl rfl rfl rfl ?_ ?_
            | refine Xn [0, 1, 4, 5, 6, 7, 8, 9, 10, 11, 12, 13, 29, 81, 87, 102] rfl ?_
            | refine XF (cZ) rfl rfl rfl rfl ?_
            | refine XF (wakes_fn) rfl rfl rfl rfl ?_
            | refine Xa eok rfl rfl rfl rfl rfl ?_ ?_
            | refine Xw eok rfl rfl rfl rfl ?_ ?_
            | refine Xs rfl rfl rfl ?_
            | (refine Xsplit rfl rfl (fun hc => ?_) (fun hc => ?_) <;> (fail_if_success (with_reducible first | exact absurd (hc : true = false) (by decide) | exact absurd (hc : false = true) (by decide))) <;> (try simp only [decide_eq_true_eq, decide_eq_false_iff_not, Bool.not_eq_true', Bool.not_eq_false', beq_iff_eq, beq_eq_false_iff_ne, bne_iff_ne, bne_eq_false_iff_eq, ne_eq, Int.not_lt, Int.not_le, ge_iff_le, gt_iff_lt] at hc) <;> (try (exfalso; omega))))
           | ((with_reducible refine gWd ?_); first
            | (refine Wd_isMv rfl ?_; refine Ymv eok rfl rfl (fun _ => rfl) rfl rfl ?_)
            | refine Yp eok rfl rfl (fun _ => rfl) rfl rfl ?_ ?_
            | refine Yq rfl rfl rfl rfl rfl ?_ ?_
            | refine Ys rfl rfl rfl rfl ?_
            | refine YF (cZ) rfl rfl rfl rfl rfl ?_
            | refine YF (wakes_fn) rfl rfl rfl rfl rfl ?_
            | refine Ya eok rfl rfl rfl rfl rfl rfl ?_ ?_
            | refine Yw eok rfl rfl rfl rfl rfl ?_ ?_
            | refine Yn [0, 1, 4, 5, 6, 7, 8, 9, 10, 11, 12, 13, 29, 81, 87, 102] [] mixed eok (by kernel_rfl) True.intro rfl ?_
            | (refine Ysplit rfl rfl (fun hc => ?_) (fun hc => ?_) <;> (fail_if_success (with_reducible first | exact absurd (hc : true = false) (by decide) | exact absurd (hc : false = true) (by decide))) <;> (try simp only [decide_eq_true_eq, decide_eq_false_iff_not, Bool.not_eq_true', Bool.not_eq_false', beq_iff_eq, beq_eq_false_iff_ne, bne_iff_ne, bne_eq_false_iff_eq, ne_eq, Int.not_lt, Int.not_le, ge_iff_le, gt_iff_lt] at hc) <;> (try (exfalso; omega))))
           | refine W_seq ?_
           | refine W_region ?_
           | refine W_any T.get ?_
           | refine W_skip ?_
           | refine W_ret ?_
           | refine W_block ?_
           | refine W_exit ?_
           | refine W_cond_t rfl ?_
           | refine W_cond_f rfl ?_
           | (refine W_cond rfl (fun hc => ?_) (fun hc => ?_) <;> (try simp only [decide_eq_true_eq, decide_eq_false_iff_not, Bool.not_eq_true', Bool.not_eq_false', beq_iff_eq, beq_eq_false_iff_ne, bne_iff_ne, bne_eq_false_iff_eq, ne_eq, Int.not_lt, Int.not_le, ge_iff_le, gt_iff_lt] at hc) <;> (try (exfalso; omega))))
          refine ⟨_, _, rfl, rfl, ?_⟩; simp [Frz_tup, Frz_ag, Frzs_cons, Frzs_nil, Frz_d, Frz_e0, Frz_sl, sln, isSl, slOk]
      | false =>
        have nS := True.intro
        repeat' (first
         | ((with_reducible refine sg ?_); first
          | with_reducible rfl
          | ((with_reducible refine fitG ?_); first | kernel_rfl | rfl | (simp [fitT, fitF, nS]; done))
          | with_reducible refine andT ?_ ?_
          | with_reducible exact Nat.beq_refl _
          | with_reducible exact fitsI_u8 _
          | ((with_reducible refine decide_eq_true ?_); first | omega | (simp only [SZl, nS]; omega))
          | decide
          | (simp [SZl, slc, allOneD, D.one, allOne, AV.one, nS]; done)
          | (simp [SZl, nS]; omega))
         | ((with_reducible refine gWl ?_); first
          | (refine Wl_isMv rfl ?_; refine Xmv eok rfl rfl rfl rfl ?_)
          | refine Xq eok rfl rfl rfl rfl ?_ ?_
          | refine Xn [0, 1, 4, 5, 6, 7, 8, 9, 10, 11, 12, 13, 29, 81, 87, 102] rfl ?_
          | refine XF (cL) rfl rfl rfl rfl ?_
          | refine XF (cM) rfl rfl rfl rfl ?_
          | refine XF (cA) rfl rfl rfl rfl ?_
          | refine XF (cX) rfl rfl rfl rfl ?_
          | refine Xa eok rfl rfl rfl rfl rfl ?_ ?_
          | refine Xw eok rfl rfl rfl rfl ?_ ?_
          | refine Xs rfl rfl rfl ?_
          | (refine Xsplit rfl rfl (fun hc => ?_) (fun hc => ?_) <;> (fail_if_success (with_reducible first | exact absurd (hc : true = false) (by decide) | exact absurd (hc : false = true) (by decide))) <;> (try simp only [decide_eq_true_eq, decide_eq_false_iff_not, Bool.not_eq_true', Bool.not_eq_false', beq_iff_eq, beq_eq_false_iff_ne, bne_iff_ne, bne_eq_false_iff_eq, ne_eq, Int.not_lt, Int.not_le, ge_iff_le, gt_iff_lt] at hc) <;> (try (exfalso; omega))))
         | ((with_reducible refine gWd ?_); first
          | (refine Wd_isMv rfl ?_; refine Ymv eok rfl rfl (fun _ => rfl) rfl rfl ?_)
          | refine Yp eok rfl rfl (fun _ => rfl) rfl rfl ?_ ?_
          | refine Yq rfl rfl rfl rfl rfl ?_ ?_
          | refine Ys rfl rfl rfl rfl ?_
          | refine YF (cL) rfl rfl rfl rfl rfl ?_
          | refine YF (cM) rfl rfl rfl rfl rfl ?_
          | refine YF (cA) rfl rfl rfl rfl rfl ?_
          | refine YF (cX) rfl rfl rfl rfl rfl ?_
          | refine Ya eok rfl rfl rfl rfl rfl rfl ?_ ?_
          | refine Yw eok rfl rfl rfl rfl rfl ?_ ?_
          | refine Yn [0, 1, 4, 5, 6, 7, 8, 9, 10, 11, 12, 13, 29, 81, 87, 102] [] mixed eok (by kernel_rfl) True.intro rfl ?_
          | (refine Ysplit rfl rfl (fun hc => ?_) (fun hc => ?_) <;> (fail_if_success (with_reducible first | exact absurd (hc : true = false) (by decide) | exact absurd (hc : false = true) (by decide))) <;> (try simp only [decide_eq_true_eq, decide_eq_false_iff_not, Bool.not_eq_true', Bool.not_eq_false', beq_iff_eq, beq_eq_false_iff_ne, bne_iff_ne, bne_eq_false_iff_eq, ne_eq, Int.not_lt, Int.not_le, ge_iff_le, gt_iff_lt] at hc) <;> (try (exfalso; omega))))
         | refine W_seq ?_
         | refine W_region ?_
         | refine W_any T.get ?_
         | refine W_skip ?_
         | refine W_ret ?_
         | refine W_block ?_
         | refine W_exit ?_
         | refine W_cond_t rfl ?_
         | refine W_cond_f rfl ?_
         | (refine W_cond rfl (fun hc => ?_) (fun hc => ?_) <;> (try simp only [decide_eq_true_eq, decide_eq_false_iff_not, Bool.not_eq_true', Bool.not_eq_false', beq_iff_eq, beq_eq_false_iff_ne, bne_iff_ne, bne_eq_false_iff_eq, ne_eq, Int.not_lt, Int.not_le, ge_iff_le, gt_iff_lt] at hc) <;> (try (exfalso; omega))))
        refine W_loopI (fun k => k ≤ all.length) (fun k : Nat => ⟨[(4, .d (.b false)), (5, .d (itemsD all)), (10, .ptr 3 0 4), (11, .d (.b true)), (12, .d (.b (inT ⟨zk, zv, zw, zg⟩ all k))), (13, .d (.i .i64 k))], [.gone, .gone, .gone, .c [.d (.s zk), .d (.i .i64 zv), .d (.i .i64 zw), .d (.b zg)]], 124⟩) (fun k => all.length - k) 0 (Nat.zero_le _) ?_ (Nat.le_of_ble_eq_true rfl) ?_
        · exact TSub.cut rfl (by repeat' (first | exact True.intro | refine And.intro (by (first | rfl | ((with_reducible_and_instances refine congrArg (fun z => some (AV.d (D.i _ z))) ?_); omega) | (refine congrArg (fun z => some (AV.d (D.i _ z))) (?_ : (_ : Int) = _); omega) | (refine congrArg some ?_; simp only [inT, List.take_zero, List.any_nil]; done) | (refine congrArg some ?_; simp [inT, List.take_zero, List.any_nil]; done))) ?_)) (by repeat' (first | exact True.intro | refine And.intro (Or.inr rfl) ?_ | refine And.intro (Or.inl ⟨rfl, rfl⟩) ?_ | refine And.intro (Or.inr (by simp only [inT, List.take_zero, List.any_nil])) ?_ | refine And.intro (Or.inr (by simp [inT, List.take_zero, List.any_nil])) ?_)) (by first | rfl | (simp (decide := true) [heapOk, Blk.ok, AV.oks, AV.ok, hk]; done)) rfl
        intro k hk
        by_cases hkl : k < all.length
        · obtain ⟨x, hx⟩ := get_of hkl
          have hn := inT_succ (z := ⟨zk, zv, zw, zg⟩) hx
          have cP := rPair_fn x
          have cN := Newer_fn x ⟨zk, zv, zw, zg⟩
          have hE := item_eqX x ⟨zk, zv, zw, zg⟩
          generalize inT ⟨zk, zv, zw, zg⟩ all k = p at *
          cases hm : x.may with
          | true =>
            rw [hm] at cP
            rw [not_newer_dec (zt x (List.mem_of_getElem? hx) hm)] at cN
            cases p with
            | true =>
              have nS := hE
              repeat' (first
               | ((with_reducible refine sg ?_); first
                | with_reducible rfl
                | ((with_reducible refine fitG ?_); first | kernel_rfl | rfl | (simp [fitT, fitF, nS]; done))
                | with_reducible refine andT ?_ ?_
                | with_reducible exact Nat.beq_refl _
                | with_reducible exact fitsI_u8 _
                | ((with_reducible refine decide_eq_true ?_); first | omega | (simp only [SZl, nS]; omega))
                | decide
                | (simp [SZl, slc, allOneD, D.one, allOne, AV.one, nS]; done)
                | (simp [SZl, nS]; omega))
               | ((with_reducible refine gWl ?_); first
                | (refine Wl_isMv rfl ?_; refine Xmv eok rfl rfl rfl rfl ?_)
                | (refine Wl_isIx rfl ?_; refine Xix eok rfl rfl rfl rfl rfl (Int.natCast_nonneg _) (ix_map hx) ?_)
                | refine Xq eok rfl rfl rfl rfl ?_ ?_
                | refine Xn [0, 1, 4, 5, 6, 7, 8, 9, 10, 11, 12, 13, 29, 81, 87, 102] rfl ?_
                | refine XF (cP) rfl rfl rfl rfl ?_
                | refine XF (cN) rfl rfl rfl rfl ?_
                | refine Xa eok rfl rfl rfl rfl rfl ?_ ?_
                | refine Xw eok rfl rfl rfl rfl ?_ ?_
                | refine Xs rfl rfl rfl ?_
                | (refine Xsplit rfl rfl (fun hc => ?_) (fun hc => ?_) <;> (fail_if_success (with_reducible first | exact absurd (hc : true = false) (by decide) | exact absurd (hc : false = true) (by decide))) <;> (try simp only [decide_eq_true_eq, decide_eq_false_iff_not, Bool.not_eq_true', Bool.not_eq_false', beq_iff_eq, beq_eq_false_iff_ne, bne_iff_ne, bne_eq_false_iff_eq, ne_eq, Int.not_lt, Int.not_le, ge_iff_le, gt_iff_lt] at hc) <;> (try (exfalso; omega))))
               | ((with_reducible refine gWd ?_); first
                | (refine Wd_isMv rfl ?_; refine Ymv eok rfl rfl (fun _ => rfl) rfl rfl ?_)
                | (refine Wd_isIx rfl ?_; refine Yix eok rfl rfl (fun _ => rfl) rfl rfl rfl (Int.natCast_nonneg _) (ix_map hx) ?_)
                | refine Yp eok rfl rfl (fun _ => rfl) rfl rfl ?_ ?_
                | refine Yq rfl rfl rfl rfl rfl ?_ ?_
                | refine Ys rfl rfl rfl rfl ?_
                | refine YF (cP) rfl rfl rfl rfl rfl ?_
                | refine YF (cN) rfl rfl rfl rfl rfl ?_
                | refine Ya eok rfl rfl rfl rfl rfl rfl ?_ ?_
                | refine Yw eok rfl rfl rfl rfl rfl ?_ ?_
                | refine Yn [0, 1, 4, 5, 6, 7, 8, 9, 10, 11, 12, 13, 29, 81, 87, 102] [] mixed eok (by kernel_rfl) True.intro rfl ?_
                | (refine Ysplit rfl rfl (fun hc => ?_) (fun hc => ?_) <;> (fail_if_success (with_reducible first | exact absurd (hc : true = false) (by decide) | exact absurd (hc : false = true) (by decide))) <;> (try simp only [decide_eq_true_eq, decide_eq_false_iff_not, Bool.not_eq_true', Bool.not_eq_false', beq_iff_eq, beq_eq_false_iff_ne, bne_iff_ne, bne_eq_false_iff_eq, ne_eq, Int.not_lt, Int.not_le, ge_iff_le, gt_iff_lt] at hc) <;> (try (exfalso; omega))))
               | refine W_seq ?_
               | refine W_region ?_
               | refine W_any T.get ?_
               | refine W_skip ?_
               | refine W_ret ?_
               | refine W_block ?_
               | refine W_exit ?_
               | refine W_cond_t rfl ?_
               | refine W_cond_f rfl ?_
               | (refine W_cond rfl (fun hc => ?_) (fun hc => ?_) <;> (try simp only [decide_eq_true_eq, decide_eq_false_iff_not, Bool.not_eq_true', Bool.not_eq_false', beq_iff_eq, beq_eq_false_iff_ne, bne_iff_ne, bne_eq_false_iff_eq, ne_eq, Int.not_lt, Int.not_le, ge_iff_le, gt_iff_lt] at hc) <;> (try (exfalso; omega))))
              refine ⟨k + 1, hkl, by omega, Nat.le_refl _, ?_⟩
              exact TSub.cut rfl (by repeat' (first | exact True.intro | refine And.intro (by (first | rfl | ((with_reducible_and_instances refine congrArg (fun z => some (AV.d (D.i _ z))) ?_); omega) | (refine congrArg (fun z => some (AV.d (D.i _ z))) (?_ : (_ : Int) = _); omega) | (refine congrArg some ?_; simp only [hn, Bool.true_or]; done) | (refine congrArg some ?_; simp [hn, Bool.true_or]; done))) ?_)) (by repeat' (first | exact True.intro | refine And.intro (Or.inr rfl) ?_ | refine And.intro (Or.inl ⟨rfl, rfl⟩) ?_ | refine And.intro (Or.inr (by simp only [hn, Bool.true_or])) ?_ | refine And.intro (Or.inr (by simp [hn, Bool.true_or])) ?_)) (by first | rfl | (simp (decide := true) [heapOk, Blk.ok, AV.oks, AV.ok, hk]; done)) rfl
            | false =>
              have nS := hE
              repeat' (first
               | ((with_reducible refine sg ?_); first
                | with_reducible rfl
                | ((with_reducible refine fitG ?_); first | kernel_rfl | rfl | (simp [fitT, fitF, nS]; done))
                | with_reducible refine andT ?_ ?_
                | with_reducible exact Nat.beq_refl _
                | with_reducible exact fitsI_u8 _
                | ((with_reducible refine decide_eq_true ?_); first | omega | (simp only [SZl, nS]; omega))
                | decide
                | (simp [SZl, slc, allOneD, D.one, allOne, AV.one, nS]; done)
                | (simp [SZl, nS]; omega))
               | ((with_reducible refine gWl ?_); first
                | (refine Wl_isMv rfl ?_; refine Xmv eok rfl rfl rfl rfl ?_)
                | (refine Wl_isIx rfl ?_; refine Xix eok rfl rfl rfl rfl rfl (Int.natCast_nonneg _) (ix_map hx) ?_)
                | refine Xq eok rfl rfl rfl rfl ?_ ?_
                | refine Xn [0, 1, 4, 5, 6, 7, 8, 9, 10, 11, 12, 13, 29, 81, 87, 102] rfl ?_
                | refine XF (cP) rfl rfl rfl rfl ?_
                | refine XF (cN) rfl rfl rfl rfl ?_
                | refine Xa eok rfl rfl rfl rfl rfl ?_ ?_
                | refine Xw eok rfl rfl rfl rfl ?_ ?_
                | refine Xs rfl rfl rfl ?_
                | (refine Xsplit rfl rfl (fun hc => ?_) (fun hc => ?_) <;> (fail_if_success (with_reducible first | exact absurd (hc : true = false) (by decide) | exact absurd (hc : false = true) (by decide))) <;> (try simp only [decide_eq_true_eq, decide_eq_false_iff_not, Bool.not_eq_true', Bool.not_eq_false', beq_iff_eq, beq_eq_false_iff_ne, bne_iff_ne, bne_eq_false_iff_eq, ne_eq, Int.not_lt, Int.not_le, ge_iff_le, gt_iff_lt] at hc) <;> (try (exfalso; omega))))
               | ((with_reducible refine gWd ?_); first
                | (refine Wd_isMv rfl ?_; refine Ymv eok rfl rfl (fun _ => rfl) rfl rfl ?_)
                | (refine Wd_isIx rfl ?_; refine Yix eok rfl rfl (fun _ => rfl) rfl rfl rfl (Int.natCast_nonneg _) (ix_map hx) ?_)
                | refine Yp eok rfl rfl (fun _ => rfl) rfl rfl ?_ ?_
                | refine Yq rfl rfl rfl rfl rfl ?_ ?_
                | refine Ys rfl rfl rfl rfl ?_
                | refine YF (cP) rfl rfl rfl rfl rfl ?_
                | refine YF (cN) rfl rfl rfl rfl rfl ?_
                | refine Ya eok rfl rfl rfl rfl rfl rfl ?_ ?_
                | refine Yw eok rfl rfl rfl rfl rfl ?_ ?_
                | refine Yn [0, 1, 4, 5, 6, 7, 8, 9, 10, 11, 12, 13, 29, 81, 87, 102] [] mixed eok (by kernel_rfl) True.intro rfl ?_
                | (refine Ysplit rfl rfl (fun hc => ?_) (fun hc => ?_) <;> (fail_if_success (with_reducible first | exact absurd (hc : true = false) (by decide) | exact absurd (hc : false = true) (by decide))) <;> (try simp only [decide_eq_true_eq, decide_eq_false_iff_not, Bool.not_eq_true', Bool.not_eq_false', beq_iff_eq, beq_eq_false_iff_ne, bne_iff_ne, bne_eq_false_iff_eq, ne_eq, Int.not_lt, Int.not_le, ge_iff_le, gt_iff_lt] at hc) <;> (try (exfalso; omega))))
               | refine W_seq ?_
               | refine W_region ?_
               | refine W_any T.get ?_
               | refine W_skip ?_
               | refine W_ret ?_
               | refine W_block ?_
               | refine W_exit ?_
               | refine W_cond_t rfl ?_
               | refine W_cond_f rfl ?_
               | (refine W_cond rfl (fun hc => ?_) (fun hc => ?_) <;> (try simp only [decide_eq_true_eq, decide_eq_false_iff_not, Bool.not_eq_true', Bool.not_eq_false', beq_iff_eq, beq_eq_false_iff_ne, bne_iff_ne, bne_eq_false_iff_eq, ne_eq, Int.not_lt, Int.not_le, ge_iff_le, gt_iff_lt] at hc) <;> (try (exfalso; omega))))
              refine ⟨k + 1, hkl, by omega, Nat.le_refl _, ?_⟩
              exact TSub.cut rfl (by repeat' (first | exact True.intro | refine And.intro (by (first | rfl | ((with_reducible_and_instances refine congrArg (fun z => some (AV.d (D.i _ z))) ?_); omega) | (refine congrArg (fun z => some (AV.d (D.i _ z))) (?_ : (_ : Int) = _); omega) | (refine congrArg some ?_; simp only [hn, Bool.false_or]; done) | (refine congrArg some ?_; simp [hn, Bool.false_or]; done))) ?_)) (by repeat' (first | exact True.intro | refine And.intro (Or.inr rfl) ?_ | refine And.intro (Or.inl ⟨rfl, rfl⟩) ?_ | refine And.intro (Or.inr (by simp only [hn, Bool.false_or])) ?_ | refine And.intro (Or.inr (by simp [hn, Bool.false_or])) ?_)) (by first | rfl | (simp (decide := true) [heapOk, Blk.ok, AV.oks, AV.ok, hk]; done)) rfl
          | false =>
            rw [hm] at cP
            cases p with
            | true =>
              have nS := hE
              repeat' (first
               | ((with_reducible refine sg ?_); first
                | with_reducible rfl
                | ((with_reducible refine fitG ?_); first | kernel_rfl | rfl | (simp [fitT, fitF, nS]; done))
                | with_reducible refine andT ?_ ?_
                | with_reducible exact Nat.beq_refl _
                | with_reducible exact fitsI_u8 _
                | ((with_reducible refine decide_eq_true ?_); first | omega | (simp only [SZl, nS]; omega))
                | decide
                | (simp [SZl, slc, allOneD, D.one, allOne, AV.one, nS]; done)
                | (simp [SZl, nS]; omega))
               | ((with_reducible refine gWl ?_); first
                | (refine Wl_isMv rfl ?_; refine Xmv eok rfl rfl rfl rfl ?_)
                | (refine Wl_isIx rfl ?_; refine Xix eok rfl rfl rfl rfl rfl (Int.natCast_nonneg _) (ix_map hx) ?_)
                | refine Xq eok rfl rfl rfl rfl ?_ ?_
                | refine Xn [0, 1, 4, 5, 6, 7, 8, 9, 10, 11, 12, 13, 29, 81, 87, 102] rfl ?_
                | refine XF (cP) rfl rfl rfl rfl ?_
                | refine XF (cN) rfl rfl rfl rfl ?_
                | refine Xa eok rfl rfl rfl rfl rfl ?_ ?_
                | refine Xw eok rfl rfl rfl rfl ?_ ?_
                | refine Xs rfl rfl rfl ?_
                | (refine Xsplit rfl rfl (fun hc => ?_) (fun hc => ?_) <;> (fail_if_success (with_reducible first | exact absurd (hc : true = false) (by decide) | exact absurd (hc : false = true) (by decide))) <;> (try simp only [decide_eq_true_eq, decide_eq_false_iff_not, Bool.not_eq_true', Bool.not_eq_false', beq_iff_eq, beq_eq_false_iff_ne, bne_iff_ne, bne_eq_false_iff_eq, ne_eq, Int.not_lt, Int.not_le, ge_iff_le, gt_iff_lt] at hc) <;> (try (exfalso; omega))))
               | ((with_reducible refine gWd ?_); first
                | (refine Wd_isMv rfl ?_; refine Ymv eok rfl rfl (fun _ => rfl) rfl rfl ?_)
                | (refine Wd_isIx rfl ?_; refine Yix eok rfl rfl (fun _ => rfl) rfl rfl rfl (Int.natCast_nonneg _) (ix_map hx) ?_)
                | refine Yp eok rfl rfl (fun _ => rfl) rfl rfl ?_ ?_
                | refine Yq rfl rfl rfl rfl rfl ?_ ?_
                | refine Ys rfl rfl rfl rfl ?_
                | refine YF (cP) rfl rfl rfl rfl rfl ?_
                | refine YF (cN) rfl rfl rfl rfl rfl ?_
                | refine Ya eok rfl rfl rfl rfl rfl rfl ?_ ?_
                | refine Yw eok rfl rfl rfl rfl rfl ?_ ?_
                | refine Yn [0, 1, 4, 5, 6, 7, 8, 9, 10, 11, 12, 13, 29, 81, 87, 102] [] mixed eok (by kernel_rfl) True.intro rfl ?_
                | (refine Ysplit rfl rfl (fun hc => ?_) (fun hc => ?_) <;> (fail_if_success (with_reducible first | exact absurd (hc : true = false) (by decide) | exact absurd (hc : false = true) (by decide))) <;> (try simp only [decide_eq_true_eq, decide_eq_false_iff_not, Bool.not_eq_true', Bool.not_eq_false', beq_iff_eq, beq_eq_false_iff_ne, bne_iff_ne, bne_eq_false_iff_eq, ne_eq, Int.not_lt, Int.not_le, ge_iff_le, gt_iff_lt] at hc) <;> (try (exfalso; omega))))
               | refine W_seq ?_
               | refine W_region ?_
               | refine W_any T.get ?_
               | refine W_skip ?_
               | refine W_ret ?_
               | refine W_block ?_
               | refine W_exit ?_
               | refine W_cond_t rfl ?_
               | refine W_cond_f rfl ?_
               | (refine W_cond rfl (fun hc => ?_) (fun hc => ?_) <;> (try simp only [decide_eq_true_eq, decide_eq_false_iff_not, Bool.not_eq_true', Bool.not_eq_false', beq_iff_eq, beq_eq_false_iff_ne, bne_iff_ne, bne_eq_false_iff_eq, ne_eq, Int.not_lt, Int.not_le, ge_iff_le, gt_iff_lt] at hc) <;> (try (exfalso; omega))))
              refine ⟨k + 1, hkl, by omega, Nat.le_refl _, ?_⟩
              exact TSub.cut rfl (by repeat' (first | exact True.intro | refine And.intro (by (first | rfl | ((with_reducible_and_instances refine congrArg (fun z => some (AV.d (D.i _ z))) ?_); omega) | (refine congrArg (fun z => some (AV.d (D.i _ z))) (?_ : (_ : Int) = _); omega) | (refine congrArg some ?_; simp only [hn, Bool.true_or]; done) | (refine congrArg some ?_; simp [hn, Bool.true_or]; done))) ?_)) (by repeat' (first | exact True.intro | refine And.intro (Or.inr rfl) ?_ | refine And.intro (Or.inl ⟨rfl, rfl⟩) ?_ | refine And.intro (Or.inr (by simp only [hn, Bool.true_or])) ?_ | refine And.intro (Or.inr (by simp [hn, Bool.true_or])) ?_)) (by first | rfl | (simp (decide := true) [heapOk, Blk.ok, AV.oks, AV.ok, hk]; done)) rfl
            | false =>
              have nS := hE
              repeat' (first
               | ((with_reducible refine sg ?_); first
                | with_reducible rfl
                | ((with_reducible refine fitG ?_); first | kernel_rfl | rfl | (simp [fitT, fitF, nS]; done))
                | with_reducible refine andT ?_ ?_
                | with_reducible exact Nat.beq_refl _
                | with_reducible exact fitsI_u8 _
                | ((with_reducible refine decide_eq_true ?_); first | omega | (simp only [SZl, nS]; omega))
                | decide
                | (simp [SZl, slc, allOneD, D.one, allOne, AV.one, nS]; done)
                | (simp [SZl, nS]; omega))
               | ((with_reducible refine gWl ?_); first
                | (refine Wl_isMv rfl ?_; refine Xmv eok rfl rfl rfl rfl ?_)
                | (refine Wl_isIx rfl ?_; refine Xix eok rfl rfl rfl rfl rfl (Int.natCast_nonneg _) (ix_map hx) ?_)
                | refine Xq eok rfl rfl rfl rfl ?_ ?_
                | refine Xn [0, 1, 4, 5, 6, 7, 8, 9, 10, 11, 12, 13, 29, 81, 87, 102] rfl ?_
                | refine XF (cP) rfl rfl rfl rfl ?_
                | refine XF (cN) rfl rfl rfl rfl ?_
                | refine Xa eok rfl rfl rfl rfl rfl ?_ ?_
                | refine Xw eok rfl rfl rfl rfl ?_ ?_
                | refine Xs rfl rfl rfl ?_
                | (refine Xsplit rfl rfl (fun hc => ?_) (fun hc => ?_) <;> (fail_if_success (with_reducible first | exact absurd (hc : true = false) (by decide) | exact absurd (hc : false = true) (by decide))) <;> (try simp only [decide_eq_true_eq, decide_eq_false_iff_not, Bool.not_eq_true', Bool.not_eq_false', beq_iff_eq, beq_eq_false_iff_ne, bne_iff_ne, bne_eq_false_iff_eq, ne_eq, Int.not_lt, Int.not_le, ge_iff_le, gt_iff_lt] at hc) <;> (try (exfalso; omega))))
               | ((with_reducible refine gWd ?_); first
                | (refine Wd_isMv rfl ?_; refine Ymv eok rfl rfl (fun _ => rfl) rfl rfl ?_)
                | (refine Wd_isIx rfl ?_; refine Yix eok rfl rfl (fun _ => rfl) rfl rfl rfl (Int.natCast_nonneg _) (ix_map hx) ?_)
                | refine Yp eok rfl rfl (fun _ => rfl) rfl rfl ?_ ?_
                | refine Yq rfl rfl rfl rfl rfl ?_ ?_
                | refine Ys rfl rfl rfl rfl ?_
                | refine YF (cP) rfl rfl rfl rfl rfl ?_
                | refine YF (cN) rfl rfl rfl rfl rfl ?_
                | refine Ya eok rfl rfl rfl rfl rfl rfl ?_ ?_
                | refine Yw eok rfl rfl rfl rfl rfl ?_ ?_
                | refine Yn [0, 1, 4, 5, 6, 7, 8, 9, 10, 11, 12, 13, 29, 81, 87, 102] [] mixed eok (by kernel_rfl) True.intro rfl ?_
                | (refine Ysplit rfl rfl (fun hc => ?_) (fun hc => ?_) <;> (fail_if_success (with_reducible first | exact absurd (hc : true = false) (by decide) | exact absurd (hc : false = true) (by decide))) <;> (try simp only [decide_eq_true_eq, decide_eq_false_iff_not, Bool.not_eq_true', Bool.not_eq_false', beq_iff_eq, beq_eq_false_iff_ne, bne_iff_ne, bne_eq_false_iff_eq, ne_eq, Int.not_lt, Int.not_le, ge_iff_le, gt_iff_lt] at hc) <;> (try (exfalso; omega))))
               | refine W_seq ?_
               | refine W_region ?_
               | refine W_any T.get ?_
               | refine W_skip ?_
               | refine W_ret ?_
               | refine W_block ?_
               | refine W_exit ?_
               | refine W_cond_t rfl ?_
               | refine W_cond_f rfl ?_
               | (refine W_cond rfl (fun hc => ?_) (fun hc => ?_) <;> (try simp only [decide_eq_true_eq, decide_eq_false_iff_not, Bool.not_eq_true', Bool.not_eq_false', beq_iff_eq, beq_eq_false_iff_ne, bne_iff_ne, bne_eq_false_iff_eq, ne_eq, Int.not_lt, Int.not_le, ge_iff_le, gt_iff_lt] at hc) <;> (try (exfalso; omega))))
              refine ⟨k + 1, hkl, by omega, Nat.le_refl _, ?_⟩
              exact TSub.cut rfl (by repeat' (first | exact True.intro | refine And.intro (by (first | rfl | ((with_reducible_and_instances refine congrArg (fun z => some (AV.d (D.i _ z))) ?_); omega) | (refine congrArg (fun z => some (AV.d (D.i _ z))) (?_ : (_ : Int) = _); omega) | (refine congrArg some ?_; simp only [hn, Bool.false_or]; done) | (refine congrArg some ?_; simp [hn, Bool.false_or]; done))) ?_)) (by repeat' (first | exact True.intro | refine And.intro (Or.inr rfl) ?_ | refine And.intro (Or.inl ⟨rfl, rfl⟩) ?_ | refine And.intro (Or.inr (by simp only [hn, Bool.false_or])) ?_ | refine And.intro (Or.inr (by simp [hn, Bool.false_or])) ?_)) (by first | rfl | (simp (decide := true) [heapOk, Blk.ok, AV.oks, AV.ok, hk]; done)) rfl
        · have e : k = all.length := by omega
          subst e
          have hI : inT ⟨zk, zv, zw, zg⟩ all all.length = true := by
            unfold inT; rw [List.take_length, List.any_eq_true]; exact ⟨_, zm1, decide_eq_true rfl⟩
          have cZ := rPair_fn ⟨zk, zv, zw, zg⟩
          rw [zm2] at cZ
          rw [hI]
          have nS := True.intro
          repeat' (first
           | ((with_reducible refine sg ?_); first
            | with_reducible rfl
            | ((with_reducible refine fitG ?_); first | kernel_rfl | rfl | (simp [fitT, fitF, nS]; done))
            | with_reducible refine andT ?_ ?_
            | with_reducible exact Nat.beq_refl _
            | with_reducible exact fitsI_u8 _
            | ((with_reducible refine decide_eq_true ?_); first | omega | (simp only [SZl, nS]; omega))
            | decide
            | (simp [SZl, slc, allOneD, D.one, allOne, AV.one, nS]; done)
            | (simp [SZl, nS]; omega))
           | ((with_reducible refine gWl ?_); first
            | (refine Wl_isMv rfl ?_; refine Xmv eok rfl rfl rfl rfl ?_)
            | refine Xq eok rfl rfl rfl rfl ?_ ?_
            | refine Xn [0, 1, 4, 5, 6, 7, 8, 9, 10, 11, 12, 13, 29, 81, 87, 102] rfl ?_
            | refine XF (cZ) rfl rfl rfl rfl ?_
            | refine XF (wakes_fn) rfl rfl rfl rfl ?_
            | refine Xa eok rfl rfl rfl rfl rfl ?_ ?_
            | refine Xw eok rfl rfl rfl rfl ?_ ?_
            | refine Xs rfl rfl rfl ?_
            | (refine Xsplit rfl rfl (fun hc => ?_) (fun hc => ?_) <;> (fail_if_success (with_reducible first | exact absurd (hc : true = false) (by decide) | exact absurd (hc : false = true) (by decide))) <;> (try simp only [decide_eq_true_eq, decide_eq_false_iff_not, Bool.not_eq_true', Bool.not_eq_false', beq_iff_eq, beq_eq_false_iff_ne, bne_iff_ne, bne_eq_false_iff_eq, ne_eq, Int.not_lt, Int.not_le, ge_iff_le, gt_iff_lt] at hc) <;> (try (exfalso; omega))))
           | ((with_reducible refine gWd ?_); first
            | (refine Wd_isMv rfl ?_; refine Ymv eok rfl rfl (fun _ => rfl) rfl rfl ?_)
            | refine Yp eok rfl rfl (fun _ => rfl) rfl rfl ?_ ?_
            | refine Yq rfl rfl rfl rfl rfl ?_ ?_
            | refine Ys rfl rfl rfl rfl ?_
            | refine YF (cZ) rfl rfl rfl rfl rfl ?_
            | refine YF (wakes_fn) rfl rfl rfl rfl rfl ?_
            | refine Ya eok rfl rfl rfl rfl rfl rfl ?_ ?_
            | refine Yw eok rfl rfl rfl rfl rfl ?_ ?_
            | refine Yn [0, 1, 4, 5, 6, 7, 8, 9, 10, 11, 12, 13, 29, 81, 87, 102] [] mixed eok (by kernel_rfl) True.intro rfl ?_
            | (refine Ysplit rfl rfl (fun hc => ?_) (fun hc => ?_) <;> (fail_if_success (with_reducible first | exact absurd (hc : true = false) (by decide) | exact absurd (hc : false = true) (by decide))) <;> (try simp only [decide_eq_true_eq, decide_eq_false_iff_not, Bool.not_eq_true', Bool.not_eq_false', beq_iff_eq, beq_eq_false_iff_ne, bne_iff_ne, bne_eq_false_iff_eq, ne_eq, Int.not_lt, Int.not_le, ge_iff_le, gt_iff_lt] at hc) <;> (try (exfalso; omega))))
           | refine W_seq ?_
           | refine W_region ?_
           | refine W_any T.get ?_
           | refine W_skip ?_
           | refine W_ret ?_
           | refine W_block ?_
           | refine W_exit ?_
           | refine W_cond_t rfl ?_
           | refine W_cond_f rfl ?_
           | (refine W_cond rfl (fun hc => ?_) (fun hc => ?_) <;> (try simp only [decide_eq_true_eq, decide_eq_false_iff_not, Bool.not_eq_true', Bool.not_eq_false', beq_iff_eq, beq_eq_false_iff_ne, bne_iff_ne, bne_eq_false_iff_eq, ne_eq, Int.not_lt, Int.not_le, ge_iff_le, gt_iff_lt] at hc) <;> (try (exfalso; omega))))
          refine ⟨_, _, rfl, rfl, ?_⟩; simp [Frz_tup, Frz_ag, Frzs_cons, Frzs_nil, Frz_d, Frz_e0, Frz_sl, sln, isSl, slOk]
    | false =>
      cases yf with
      | true =>
        rw [hY rfl] at cY
        have nS := True.intro
        repeat' (first
         | ((with_reducible refine sg ?_); first
          | with_reducible rfl
          | ((with_reducible refine fitG ?_); first | kernel_rfl | rfl | (simp [fitT, fitF, nS]; done))
          | with_reducible refine andT ?_ ?_
          | with_reducible exact Nat.beq_refl _
          | with_reducible exact fitsI_u8 _
          | ((with_reducible refine decide_eq_true ?_); first | omega | (simp only [SZl, nS]; omega))
          | decide
          | (simp [SZl, slc, allOneD, D.one, allOne, AV.one, nS]; done)
          | (simp [SZl, nS]; omega))
         | ((with_reducible refine gWl ?_); first
          | (refine Wl_isMv rfl ?_; refine Xmv eok rfl rfl rfl rfl ?_)
          | refine Xq eok rfl rfl rfl rfl ?_ ?_
          | refine Xn [0, 1, 4, 5, 6, 7, 8, 9, 10, 11, 12, 13, 29, 81, 87, 102] rfl ?_
          | refine XF (cL) rfl rfl rfl rfl ?_
          | refine XF (cM) rfl rfl rfl rfl ?_
          | refine XF (cA) rfl rfl rfl rfl ?_
          | refine XF (cY) rfl rfl rfl rfl ?_
          | refine Xa eok rfl rfl rfl rfl rfl ?_ ?_
          | refine Xw eok rfl rfl rfl rfl ?_ ?_
          | refine Xs rfl rfl rfl ?_
          | (refine Xsplit rfl rfl (fun hc => ?_) (fun hc => ?_) <;> (fail_if_success (with_reducible first | exact absurd (hc : true = false) (by decide) | exact absurd (hc : false = true) (by decide))) <;> (try simp only [decide_eq_true_eq, decide_eq_false_iff_not, Bool.not_eq_true', Bool.not_eq_false', beq_iff_eq, beq_eq_false_iff_ne, bne_iff_ne, bne_eq_false_iff_eq, ne_eq, Int.not_lt, Int.not_le, ge_iff_le, gt_iff_lt] at hc) <;> (try (exfalso; omega))))
         | ((with_reducible refine gWd ?_); first
          | (refine Wd_isMv rfl ?_; refine Ymv eok rfl rfl (fun _ => rfl) rfl rfl ?_)
          | refine Yp eok rfl rfl (fun _ => rfl) rfl rfl ?_ ?_
          | refine Yq rfl rfl rfl rfl rfl ?_ ?_
          | refine Ys rfl rfl rfl rfl ?_
          | refine YF (cL) rfl rfl rfl rfl rfl ?_
          | refine YF (cM) rfl rfl rfl rfl rfl ?_
          | refine YF (cA) rfl rfl rfl rfl rfl ?_
          | refine YF (cY) rfl rfl rfl rfl rfl ?_
          | refine Ya eok rfl rfl rfl rfl rfl rfl ?_ ?_
          | refine Yw eok rfl rfl rfl rfl rfl ?_ ?_
          | refine Yn [0, 1, 4, 5, 6, 7, 8, 9, 10, 11, 12, 13, 29, 81, 87, 102] [] mixed eok (by kernel_rfl) True.intro rfl ?_
          | (refine Ysplit rfl rfl (fun hc => ?_) (fun hc => ?_) <;> (fail_if_success (with_reducible first | exact absurd (hc : true = false) (by decide) | exact absurd (hc : false = true) (by decide))) <;> (try simp only [decide_eq_true_eq, decide_eq_false_iff_not, Bool.not_eq_true', Bool.not_eq_false', beq_iff_eq, beq_eq_false_iff_ne, bne_iff_ne, bne_eq_false_iff_eq, ne_eq, Int.not_lt, Int.not_le, ge_iff_le, gt_iff_lt] at hc) <;> (try (exfalso; omega))))
         | refine W_seq ?_
         | refine W_region ?_
         | refine W_any T.get ?_
         | refine W_skip ?_
         | refine W_ret ?_
         | refine W_block ?_
         | refine W_exit ?_
         | refine W_cond_t rfl ?_
         | refine W_cond_f rfl ?_
         | (refine W_cond rfl (fun hc => ?_) (fun hc => ?_) <;> (try simp only [decide_eq_true_eq, decide_eq_false_iff_not, Bool.not_eq_true', Bool.not_eq_false', beq_iff_eq, beq_eq_false_iff_ne, bne_iff_ne, bne_eq_false_iff_eq, ne_eq, Int.not_lt, Int.not_le, ge_iff_le, gt_iff_lt] at hc) <;> (try (exfalso; omega))))
        refine W_loopI (fun k => k ≤ all.length) (fun k : Nat => ⟨[(4, .d (.b false)), (5, .d (itemsD all)), (10, .ptr 3 0 4), (11, .d (.b true)), (12, .d (.b (inT ⟨zk, zv, zw, zg⟩ all k))), (13, .d (.i .i64 k))], [.gone, .gone, .gone, .c [.d (.s zk), .d (.i .i64 zv), .d (.i .i64 zw), .d (.b zg)]], 124⟩) (fun k => all.length - k) 0 (Nat.zero_le _) ?_ (Nat.le_of_ble_eq_true rfl) ?_
        · exact TSub.cut rfl (by repeat' (first | exact True.intro | refine And.intro (by (first | rfl | ((with_reducible_and_instances refine congrArg (fun z => some (AV.d (D.i _ z))) ?_); omega) | (refine congrArg (fun z => some (AV.d (D.i _ z))) (?_ : (_ : Int) = _); omega) | (refine congrArg some ?_; simp only [inT, List.take_zero, List.any_nil]; done) | (refine congrArg some ?_; simp [inT, List.take_zero, List.any_nil]; done))) ?_)) (by repeat' (first | exact True.intro | refine And.intro (Or.inr rfl) ?_ | refine And.intro (Or.inl ⟨rfl, rfl⟩) ?_ | refine And.intro (Or.inr (by simp only [inT, List.take_zero, List.any_nil])) ?_ | refine And.intro (Or.inr (by simp [inT, List.take_zero, List.any_nil])) ?_)) (by first | rfl | (simp (decide := true) [heapOk, Blk.ok, AV.oks, AV.ok, hk]; done)) rfl
        intro k hk
        by_cases hkl : k < all.length
        · obtain ⟨x, hx⟩ := get_of hkl
          have hn := inT_succ (z := ⟨zk, zv, zw, zg⟩) hx
          have cP := rPair_fn x
          have cN := Newer_fn x ⟨zk, zv, zw, zg⟩
          have hE := item_eqX x ⟨zk, zv, zw, zg⟩
          generalize inT ⟨zk, zv, zw, zg⟩ all k = p at *
          cases hm : x.may with
          | true =>
            rw [hm] at cP
            rw [not_newer_dec (zt x (List.mem_of_getElem? hx) hm)] at cN
            cases p with
            | true =>
              have nS := hE
              repeat' (first
               | ((with_reducible refine sg ?_); first
                | with_reducible rfl
                | ((with_reducible refine fitG ?_); first | kernel_rfl | rfl | (simp [fitT, fitF, nS]; done))
                | with_reducible refine andT ?_ ?_
                | with_reducible exact Nat.beq_refl _
                | with_reducible exact fitsI_u8 _
                | ((with_reducible refine decide_eq_true ?_); first | omega | (simp only [SZl, nS]; omega))
                | decide
                | (simp [SZl, slc, allOneD, D.one, allOne, AV.one, nS]; done)
                | (simp [SZl, nS]; omega))
               | ((with_reducible refine gWl ?_); first
                | (refine Wl_isMv rfl ?_; refine Xmv eok rfl rfl rfl rfl ?_)
                | (refine Wl_isIx rfl ?_; refine Xix eok rfl rfl rfl rfl rfl (Int.natCast_nonneg _) (ix_map hx) ?_)
                | refine Xq eok rfl rfl rfl rfl ?_ ?_
                | refine Xn [0, 1, 4, 5, 6, 7, 8, 9, 10, 11, 12, 13, 29, 81, 87, 102] rfl ?_
                | refine XF (cP) rfl rfl rfl rfl ?_
                | refine XF (cN) rfl rfl rfl rfl ?_
                | refine Xa eok rfl rfl rfl rfl rfl ?_ ?_
                | refine Xw eok rfl rfl rfl rfl ?_ ?_
                | refine Xs rfl rfl rfl ?_
                | (refine Xsplit rfl rfl (fun hc => ?_) (fun hc => ?_) <;> (fail_if_success (with_reducible first | exact absurd (hc : true = false) (by decide) | exact absurd (hc : false = true) (by decide))) <;> (try simp only [decide_eq_true_eq, decide_eq_false_iff_not, Bool.not_eq_true', Bool.not_eq_false', beq_iff_eq, beq_eq_false_iff_ne, bne_iff_ne, bne_eq_false_iff_eq, ne_eq, Int.not_lt, Int.not_le, ge_iff_le, gt_iff_lt] at hc) <;> (try (exfalso; omega))))
               | ((with_reducible refine gWd ?_); first
                | (refine Wd_isMv rfl ?_; refine Ymv eok rfl rfl (fun _ => rfl) rfl rfl ?_)
                | (refine Wd_isIx rfl ?_; refine Yix eok rfl rfl (fun _ => rfl) rfl rfl rfl (Int.natCast_nonneg _) (ix_map hx) ?_)
                | refine Yp eok rfl rfl (fun _ => rfl) rfl rfl ?_ ?_
                | refine Yq rfl rfl rfl rfl rfl ?_ ?_
                | refine Ys rfl rfl rfl rfl ?_
                | refine YF (cP) rfl rfl rfl rfl rfl ?_
                | refine YF (cN) rfl rfl rfl rfl rfl ?_
                | refine Ya eok rfl rfl rfl rfl rfl rfl ?_ ?_
                | refine Yw eok rfl rfl rfl rfl rfl ?_ ?_
                | refine Yn [0, 1, 4, 5, 6, 7, 8, 9, 10, 11, 12, 13, 29, 81, 87, 102] [] mixed eok (by kernel_rfl) True.intro rfl ?_
                | (refine Ysplit rfl rfl (fun hc => ?_) (fun hc => ?_) <;> (fail_if_success (with_reducible first | exact absurd (hc : true = false) (by decide) | exact absurd (hc : false = true) (by decide))) <;> (try simp only [decide_eq_true_eq, decide_eq_false_iff_not, Bool.not_eq_true', Bool.not_eq_false', beq_iff_eq, beq_eq_false_iff_ne, bne_iff_ne, bne_eq_false_iff_eq, ne_eq, Int.not_lt, Int.not_le, ge_iff_le, gt_iff_lt] at hc) <;> (try (exfalso; omega))))
               | refine W_seq ?_
               | refine W_region ?_
               | refine W_any T.get ?_
               | refine W_skip ?_
               | refine W_ret ?_
               | refine W_block ?_
               | refine W_exit ?_
               | refine W_cond_t rfl ?_
               | refine W_cond_f rfl ?_
               | (refine W_cond rfl (fun hc => ?_) (fun hc => ?_) <;> (try simp only [decide_eq_true_eq, decide_eq_false_iff_not, Bool.not_eq_true', Bool.not_eq_false', beq_iff_eq, beq_eq_false_iff_ne, bne_iff_ne, bne_eq_false_iff_eq, ne_eq, Int.not_lt, Int.not_le, ge_iff_le, gt_iff_lt] at hc) <;> (try (exfalso; omega))))
              refine ⟨k + 1, hkl, by omega, Nat.le_refl _, ?_⟩
              exact TSub.cut rfl (by repeat' (first | exact True.intro | refine And.intro (by (first | rfl | ((with_reducible_and_instances refine congrArg (fun z => some (AV.d (D.i _ z))) ?_); omega) | (refine congrArg (fun z => some (AV.d (D.i _ z))) (?_ : (_ : Int) = _); omega) | (refine congrArg some ?_; simp only [hn, Bool.true_or]; done) | (refine congrArg some ?_; simp [hn, Bool.true_or]; done))) ?_)) (by repeat' (first | exact True.intro | refine And.intro (Or.inr rfl) ?_ | refine And.intro (Or.inl ⟨rfl, rfl⟩) ?_ | refine And.intro (Or.inr (by simp only [hn, Bool.true_or])) ?_ | refine And.intro (Or.inr (by simp [hn, Bool.true_or])) ?_)) (by first | rfl | (simp (decide := true) [heapOk, Blk.ok, AV.oks, AV.ok, hk]; done)) rfl
            | false =>
              have nS := hE
              repeat' (first
               | ((with_reducible refine sg ?_); first
                | with_reducible rfl
                | ((with_reducible refine fitG ?_); first | kernel_rfl | rfl | (simp [fitT, fitF, nS]; done))
                | with_reducible refine andT ?_ ?_
                | with_reducible exact Nat.beq_refl _
                | with_reducible exact fitsI_u8 _
                | ((with_reducible refine decide_eq_true ?_); first | omega | (simp only [SZl, nS]; omega))
                | decide
                | (simp [SZl, slc, allOneD, D.one, allOne, AV.one, nS]; done)
                | (simp [SZl, nS]; omega))
               | ((with_reducible refine gWl ?_); first
                | (refine Wl_isMv rfl ?_; refine Xmv eok rfl rfl rfl rfl ?_)
                | (refine Wl_isIx rfl ?_; refine Xix eok rfl rfl rfl rfl rfl (Int.natCast_nonneg _) (ix_map hx) ?_)
                | refine Xq eok rfl rfl rfl rfl ?_ ?_
                | refine Xn [0, 1, 4, 5, 6, 7, 8, 9, 10, 11, 12, 13, 29, 81, 87, 102] rfl ?_
                | refine XF (cP) rfl rfl rfl rfl ?_
                | refine XF (cN) rfl rfl rfl rfl ?_
                | refine Xa eok rfl rfl rfl rfl rfl ?_ ?_
                | refine Xw eok rfl rfl rfl rfl ?_ ?_
                | refine Xs rfl rfl rfl ?_
                | (refine Xsplit rfl rfl (fun hc => ?_) (fun hc => ?_) <;> (fail_if_success (with_reducible first | exact absurd (hc : true = false) (by decide) | exact absurd (hc : false = true) (by decide))) <;> (try simp only [decide_eq_true_eq, decide_eq_false_iff_not, Bool.not_eq_true', Bool.not_eq_false', beq_iff_eq, beq_eq_false_iff_ne, bne_iff_ne, bne_eq_false_iff_eq, ne_eq, Int.not_lt, Int.not_le, ge_iff_le, gt_iff_lt] at hc) <;> (try (exfalso; omega))))
               | ((with_reducible refine gWd ?_); first
                | (refine Wd_isMv rfl ?_; refine Ymv eok rfl rfl (fun _ => rfl) rfl rfl ?_)
                | (refine Wd_isIx rfl ?_; refine Yix eok rfl rfl (fun _ => rfl) rfl rfl rfl (Int.natCast_nonneg _) (ix_map hx) ?_)
                | refine Yp eok rfl rfl (fun _ => rfl) rfl rfl ?_ ?_
                | refine Yq rfl rfl rfl rfl rfl ?_ ?_
                | refine Ys rfl rfl rfl rfl ?_
                | refine YF (cP) rfl rfl rfl rfl rfl ?_
                | refine YF (cN) rfl rfl rfl rfl rfl ?_
                | refine Ya eok rfl rfl rfl rfl rfl rfl ?_ ?_
                | refine Yw eok rfl rfl rfl rfl rfl ?_ ?_
                | refine Yn [0, 1, 4, 5, 6, 7, 8, 9, 10, 11, 12, 13, 29, 81, 87, 102] [] mixed eok (by kernel_rfl) True.intro rfl ?_
                | (refine Ysplit rfl rfl (fun hc => ?_) (fun hc => ?_) <;> (fail_if_success (with_reducible first | exact absurd (hc : true = false) (by decide) | exact absurd (hc : false = true) (by decide))) <;> (try simp only [decide_eq_true_eq, decide_eq_false_iff_not, Bool.not_eq_true', Bool.not_eq_false', beq_iff_eq, beq_eq_false_iff_ne, bne_iff_ne, bne_eq_false_iff_eq, ne_eq, Int.not_lt, Int.not_le, ge_iff_le, gt_iff_lt] at hc) <;> (try (exfalso; omega))))
               | refine W_seq ?_
               | refine W_region ?_
               | refine W_any T.get ?_
               | refine W_skip ?_
               | refine W_ret ?_
               | refine W_block ?_
               | refine W_exit ?_
               | refine W_cond_t rfl ?_
               | refine W_cond_f rfl ?_
               | (refine W_cond rfl (fun hc => ?_) (fun hc => ?_) <;> (try simp only [decide_eq_true_eq, decide_eq_false_iff_not, Bool.not_eq_true', Bool.not_eq_false', beq_iff_eq, beq_eq_false_iff_ne, bne_iff_ne, bne_eq_false_iff_eq, ne_eq, Int.not_lt, Int.not_le, ge_iff_le, gt_iff_lt] at hc) <;> (try (exfalso; omega))))
              refine ⟨k + 1, hkl, by omega, Nat.le_refl _, ?_⟩
              exact TSub.cut rfl (by repeat' (first | exact True.intro | refine And.intro (by (first | rfl | ((with_reducible_and_instances refine congrArg (fun z => some (AV.d (D.i _ z))) ?_); omega) | (refine congrArg (fun z => some (AV.d (D.i _ z))) (?_ : (_ : Int) = _); omega) | (refine congrArg some ?_; simp only [hn, Bool.false_or]; done) | (refine congrArg some ?_; simp [hn, Bool.false_or]; done))) ?_)) (by repeat' (first | exact True.intro | refine And.intro (Or.inr rfl) ?_ | refine And.intro (Or.inl ⟨rfl, rfl⟩) ?_ | refine And.intro (Or.inr (by simp only [hn, Bool.false_or])) ?_ | refine And.intro (Or.inr (by simp [hn, Bool.false_or])) ?_)) (by first | rfl | (simp (decide := true) [heapOk, Blk.ok, AV.oks, AV.ok, hk]; done)) rfl
          | false =>
            rw [hm] at cP
            cases p with
            | true =>
              have nS := hE
              repeat' (first
               | ((with_reducible refine sg ?_); first
                | with_reducible rfl
                | ((with_reducible refine fitG ?_); first | kernel_rfl | rfl | (simp [fitT, fitF, nS]; done))
                | with_reducible refine andT ?_ ?_
                | with_reducible exact Nat.beq_refl _
                | with_reducible exact fitsI_u8 _
                | ((with_reducible refine decide_eq_true ?_); first | omega | (simp only [SZl, nS]; omega))
                | decide
                | (simp [SZl, slc, allOneD, D.one, allOne, AV.one, nS]; done)
                | (simp [SZl, nS]; omega))
               | ((with_reducible refine gWl ?_); first
                | (refine Wl_isMv rfl ?_; refine Xmv eok rfl rfl rfl rfl ?_)
                | (refine Wl_isIx rfl ?_; refine Xix eok rfl rfl rfl rfl rfl (Int.natCast_nonneg _) (ix_map hx) ?_)
                | refine Xq eok rfl rfl rfl rfl ?_ ?_
                | refine Xn [0, 1, 4, 5, 6, 7, 8, 9, 10, 11, 12, 13, 29, 81, 87, 102] rfl ?_
                | refine XF (cP) rfl rfl rfl rfl ?_
                | refine XF (cN) rfl rfl rfl rfl ?_
                | refine Xa eok rfl rfl rfl rfl rfl ?_ ?_
                | refine Xw eok rfl rfl rfl rfl ?_ ?_
                | refine Xs rfl rfl rfl ?_
                | (refine Xsplit rfl rfl (fun hc => ?_) (fun hc => ?_) <;> (fail_if_success (with_reducible first | exact absurd (hc : true = false) (by decide) | exact absurd (hc : false = true) (by decide))) <;> (try simp only [decide_eq_true_eq, decide_eq_false_iff_not, Bool.not_eq_true', Bool.not_eq_false', beq_iff_eq, beq_eq_false_iff_ne, bne_iff_ne, bne_eq_false_iff_eq, ne_eq, Int.not_lt, Int.not_le, ge_iff_le, gt_iff_lt] at hc) <;> (try (exfalso; omega))))
               | ((with_reducible refine gWd ?_); first
                | (refine Wd_isMv rfl ?_; refine Ymv eok rfl rfl (fun _ => rfl) rfl rfl ?_)
                | (refine Wd_isIx rfl ?_; refine Yix eok rfl rfl (fun _ => rfl) rfl rfl rfl (Int.natCast_nonneg _) (ix_map hx) ?_)
                | refine Yp eok rfl rfl (fun _ => rfl) rfl rfl ?_ ?_
                | refine Yq rfl rfl rfl rfl rfl ?_ ?_
                | refine Ys rfl rfl rfl rfl ?_
                | refine YF (cP) rfl rfl rfl rfl rfl ?_
                | refine YF (cN) rfl rfl rfl rfl rfl ?_
                | refine Ya eok rfl rfl rfl rfl rfl rfl ?_ ?_
                | refine Yw eok rfl rfl rfl rfl rfl ?_ ?_
                | refine Yn [0, 1, 4, 5, 6, 7, 8, 9, 10, 11, 12, 13, 29, 81, 87, 102] [] mixed eok (by kernel_rfl) True.intro rfl ?_
                | (refine Ysplit rfl rfl (fun hc => ?_) (fun hc => ?_) <;> (fail_if_success (with_reducible first | exact absurd (hc : true = false) (by decide) | exact absurd (hc : false = true) (by decide))) <;> (try simp only [decide_eq_true_eq, decide_eq_false_iff_not, Bool.not_eq_true', Bool.not_eq_false', beq_iff_eq, beq_eq_false_iff_ne, bne_iff_ne, bne_eq_false_iff_eq, ne_eq, Int.not_lt, Int.not_le, ge_iff_le, gt_iff_lt] at hc) <;> (try (exfalso; omega))))
               | refine W_seq ?_
               | refine W_region ?_
               | refine W_any T.get ?_
               | refine W_skip ?_
               | refine W_ret ?_
               | refine W_block ?_
               | refine W_exit ?_
               | refine W_cond_t rfl ?_
               | refine W_cond_f rfl ?_
               | (refine W_cond rfl (fun hc => ?_) (fun hc => ?_) <;> (try simp only [decide_eq_true_eq, decide_eq_false_iff_not, Bool.not_eq_true', Bool.not_eq_false', beq_iff_eq, beq_eq_false_iff_ne, bne_iff_ne, bne_eq_false_iff_eq, ne_eq, Int.not_lt, Int.not_le, ge_iff_le, gt_iff_lt] at hc) <;> (try (exfalso; omega))))
              refine ⟨k + 1, hkl, by omega, Nat.le_refl _, ?_⟩
              exact TSub.cut rfl (by repeat' (first | exact True.intro | refine And.intro (by (first | rfl | ((with_reducible_and_instances refine congrArg (fun z => some (AV.d (D.i _ z))) ?_); omega) | (refine congrArg (fun z => some (AV.d (D.i _ z))) (?_ : (_ : Int) = _); omega) | (refine congrArg some ?_; simp only [hn, Bool.true_or]; done) | (refine congrArg some ?_; simp [hn, Bool.true_or]; done))) ?_)) (by repeat' (first | exact True.intro | refine And.intro (Or.inr rfl) ?_ | refine And.intro (Or.inl ⟨rfl, rfl⟩) ?_ | refine And.intro (Or.inr (by simp only [hn, Bool.true_or])) ?_ | refine And.intro (Or.inr (by simp [hn, Bool.true_or])) ?_)) (by first | rfl | (simp (decide := true) [heapOk, Blk.ok, AV.oks, AV.ok, hk]; done)) rfl
            | false =>
              have nS := hE
              repeat' (first
               | ((with_reducible refine sg ?_); first
                | with_reducible rfl
                | ((with_reducible refine fitG ?_); first | kernel_rfl | rfl | (simp [fitT, fitF, nS]; done))
                | with_reducible refine andT ?_ ?_
                | with_reducible exact Nat.beq_refl _
                | with_reducible exact fitsI_u8 _
                | ((with_reducible refine decide_eq_true ?_); first | omega | (simp only [SZl, nS]; omega))
                | decide
                | (simp [SZl, slc, allOneD, D.one, allOne, AV.one, nS]; done)
                | (simp [SZl, nS]; omega))
               | ((with_reducible refine gWl ?_); first
                | (refine Wl_isMv rfl ?_; refine Xmv eok rfl rfl rfl rfl ?_)
                | (refine Wl_isIx rfl ?_; refine Xix eok rfl rfl rfl rfl rfl (Int.natCast_nonneg _) (ix_map hx) ?_)
                | refine Xq eok rfl rfl rfl rfl ?_ ?_
                | refine Xn [0, 1, 4, 5, 6, 7, 8, 9, 10, 11, 12, 13, 29, 81, 87, 102] rfl ?_
                | refine XF (cP) rfl rfl rfl rfl ?_
                | refine XF (cN) rfl rfl rfl rfl ?_
                | refine Xa eok rfl rfl rfl rfl rfl ?_ ?_
                | refine Xw eok rfl rfl rfl rfl ?_ ?_
                | refine Xs rfl rfl rfl ?_
                | (refine Xsplit rfl rfl (fun hc => ?_) (fun hc => ?_) <;> (fail_if_success (with_reducible first | exact absurd (hc : true = false) (by decide) | exact absurd (hc : false = true) (by decide))) <;> (try simp only [decide_eq_true_eq, decide_eq_false_iff_not, Bool.not_eq_true', Bool.not_eq_false', beq_iff_eq, beq_eq_false_iff_ne, bne_iff_ne, bne_eq_false_iff_eq, ne_eq, Int.not_lt, Int.not_le, ge_iff_le, gt_iff_lt] at hc) <;> (try (exfalso; omega))))
               | ((with_reducible refine gWd ?_); first
                | (refine Wd_isMv rfl ?_; refine Ymv eok rfl rfl (fun _ => rfl) rfl rfl ?_)
                | (refine Wd_isIx rfl ?_; refine Yix eok rfl rfl (fun _ => rfl) rfl rfl rfl (Int.natCast_nonneg _) (ix_map hx) ?_)
                | refine Yp eok rfl rfl (fun _ => rfl) rfl rfl ?_ ?_
                | refine Yq rfl rfl rfl rfl rfl ?_ ?_
                | refine Ys rfl rfl rfl rfl ?_
                | refine YF (cP) rfl rfl rfl rfl rfl ?_
                | refine YF (cN) rfl rfl rfl rfl rfl ?_
                | refine Ya eok rfl rfl rfl rfl rfl rfl ?_ ?_
                | refine Yw eok rfl rfl rfl rfl rfl ?_ ?_
                | refine Yn [0, 1, 4, 5, 6, 7, 8, 9, 10, 11, 12, 13, 29, 81, 87, 102] [] mixed eok (by kernel_rfl) True.intro rfl ?_
                | (refine Ysplit rfl rfl (fun hc => ?_) (fun hc => ?_) <;> (fail_if_success (with_reducible first | exact absurd (hc : true = false) (by decide) | exact absurd (hc : false = true) (by decide))) <;> (try simp only [decide_eq_true_eq, decide_eq_false_iff_not, Bool.not_eq_true', Bool.not_eq_false', beq_iff_eq, beq_eq_false_iff_ne, bne_iff_ne, bne_eq_false_iff_eq, ne_eq, Int.not_lt, Int.not_le, ge_iff_le, gt_iff_lt] at hc) <;> (try (exfalso; omega))))
               | refine W_seq ?_
               | refine W_region ?_
               | refine W_any T.get ?_
               | refine W_skip ?_
               | refine W_ret ?_
               | refine W_block ?_
               | refine W_exit ?_
               | refine W_cond_t rfl ?_
               | refine W_cond_f rfl ?_
               | (refine W_cond rfl (fun hc => ?_) (fun hc => ?_) <;> (try simp only [decide_eq_true_eq, decide_eq_false_iff_not, Bool.not_eq_true', Bool.not_eq_false', beq_iff_eq, beq_eq_false_iff_ne, bne_iff_ne, bne_eq_false_iff_eq, ne_eq, Int.not_lt, Int.not_le, ge_iff_le, gt_iff_lt] at hc) <;> (try (exfalso; omega))))
              refine ⟨k + 1, hkl, by omega, Nat.le_refl _, ?_⟩
              exact TSub.cut rfl (by repeat' (first | exact True.intro | refine And.intro (by (first | rfl | ((with_reducible_and_instances refine congrArg (fun z => some (AV.d (D.i _ z))) ?_); omega) | (refine congrArg (fun z => some (AV.d (D.i _ z))) (?_ : (_ : Int) = _); omega) | (refine congrArg some ?_; simp only [hn, Bool.false_or]; done) | (refine congrArg some ?_; simp [hn, Bool.false_or]; done))) ?_)) (by repeat' (first | exact True.intro | refine And.intro (Or.inr rfl) ?_ | refine And.intro (Or.inl ⟨rfl, rfl⟩) ?_ | refine And.intro (Or.inr (by simp only [hn, Bool.false_or])) ?_ | refine And.intro (Or.inr (by simp [hn, Bool.false_or])) ?_)) (by first | rfl | (simp (decide := true) [heapOk, Blk.ok, AV.oks, AV.ok, hk]; done)) rfl
        · have e : k = all.length := by omega
          subst e
          have hI : inT ⟨zk, zv, zw, zg⟩ all all.length = true := by
            unfold inT; rw [List.take_length, List.any_eq_true]; exact ⟨_, zm1, decide_eq_true rfl⟩
          have cZ := rPair_fn ⟨zk, zv, zw, zg⟩
          rw [zm2] at cZ
          rw [hI]
          have nS := True.intro
          repeat' (first
           | ((with_reducible refine sg ?_); first
            | with_reducible rfl
            | ((with_reducible refine fitG ?_); first | kernel_rfl | rfl | (simp [fitT, fitF, nS]; done))
            | with_reducible refine andT ?_ ?_
            | with_reducible exact Nat.beq_refl _
            | with_reducible exact fitsI_u8 _
            | ((with_reducible refine decide_eq_true ?_); first | omega | (simp only [SZl, nS]; omega))
            | decide
            | (simp [SZl, slc, allOneD, D.one, allOne, AV.one, nS]; done)
            | (simp [SZl, nS]; omega))
           | ((with_reducible refine gWl ?_); first
            | (refine Wl_isMv rfl ?_; refine Xmv eok rfl rfl rfl rfl ?_)
            | refine Xq eok rfl rfl rfl rfl ?_ ?_
            | refine Xn [0, 1, 4, 5, 6, 7, 8, 9, 10, 11, 12, 13, 29, 81, 87, 102] rfl ?_
            | refine XF (cZ) rfl rfl rfl rfl ?_
            | refine XF (wakes_fn) rfl rfl rfl rfl ?_
            | refine Xa eok rfl rfl rfl rfl rfl ?_ ?_
            | refine Xw eok rfl rfl rfl rfl ?_ ?_
            | refine Xs rfl rfl rfl ?_
            | (refine Xsplit rfl rfl (fun hc => ?_) (fun hc => ?_) <;> (fail_if_success (with_reducible first | exact absurd (hc : true = false) (by decide) | exact absurd (hc : false = true) (by decide))) <;> (try simp only [decide_eq_true_eq, decide_eq_false_iff_not, Bool.not_eq_true', Bool.not_eq_false', beq_iff_eq, beq_eq_false_iff_ne, bne_iff_ne, bne_eq_false_iff_eq, ne_eq, Int.not_lt, Int.not_le, ge_iff_le, gt_iff_lt] at hc) <;> (try (exfalso; omega))))
           | ((with_reducible refine gWd ?_); first
            | (refine Wd_isMv rfl ?_; refine Ymv eok rfl rfl (fun _ => rfl) rfl rfl ?_)
            | refine Yp eok rfl rfl (fun _ => rfl) rfl rfl ?_ ?_
            | refine Yq rfl rfl rfl rfl rfl ?_ ?_
            | refine Ys rfl rfl rfl rfl ?_
            | refine YF (cZ) rfl rfl rfl rfl rfl ?_
            | refine YF (wakes_fn) rfl rfl rfl rfl rfl ?_
            | refine Ya eok rfl rfl rfl rfl rfl rfl ?_ ?_
            | refine Yw eok rfl rfl rfl rfl rfl ?_ ?_
            | refine Yn [0, 1, 4, 5, 6, 7, 8, 9, 10, 11, 12, 13, 29, 81, 87, 102] [] mixed eok (by kernel_rfl) True.intro rfl ?_
            | (refine Ysplit rfl rfl (fun hc => ?_) (fun hc => ?_) <;> (fail_if_success (with_reducible first | exact absurd (hc : true = false) (by decide) | exact absurd (hc : false = true) (by decide))) <;> (try simp only [decide_eq_true_eq, decide_eq_false_iff_not, Bool.not_eq_true', Bool.not_eq_false', beq_iff_eq, beq_eq_false_iff_ne, bne_iff_ne, bne_eq_false_iff_eq, ne_eq, Int.not_lt, Int.not_le, ge_iff_le, gt_iff_lt] at hc) <;> (try (exfalso; omega))))
           | refine W_seq ?_
           | refine W_region ?_
           | refine W_any T.get ?_
           | refine W_skip ?_
           | refine W_ret ?_
           | refine W_block ?_
           | refine W_exit ?_
           | refine W_cond_t rfl ?_
           | refine W_cond_f rfl ?_
           | (refine W_cond rfl (fun hc => ?_) (fun hc => ?_) <;> (try simp only [decide_eq_true_eq, decide_eq_false_iff_not, Bool.not_eq_true', Bool.not_eq_false', beq_iff_eq, beq_eq_false_iff_ne, bne_iff_ne, bne_eq_false_iff_eq, ne_eq, Int.not_lt, Int.not_le, ge_iff_le, gt_iff_lt] at hc) <;> (try (exfalso; omega))))
          refine ⟨_, _, rfl, rfl, ?_⟩; simp [Frz_tup, Frz_ag, Frzs_cons, Frzs_nil, Frz_d, Frz_e0, Frz_sl, sln, isSl, slOk]
      | false => cases za
  | false =>
    have hz := zn rfl
    have hzE : eqL [.s zk, .i .i64 zv, .i .i64 zw, .b zg] [.s [], .i .i64 0, .i .i64 0, .b false] = true := (item_eqX ⟨zk, zv, zw, zg⟩ zeroI).trans (decide_eq_true hz)
    have hxf : xf = false := by cases xf with | false => rfl | true => cases za
    have hyf : yf = false := by cases yf with | false => rfl | true => subst hxf; cases za
    subst hxf; subst hyf
    have hno : ∀ x ∈ all, x.may = false := by
      rw [← hall]; intro x hx
      rw [eq_comm, List.any_eq_false] at xa ya
      rcases List.mem_append.1 hx with hx | hx
      · exact may_false (xa x hx)
      · exact may_false (ya x hx)
    have nS := hzE
    repeat' (first
     | ((with_reducible refine sg ?_); first
      | with_reducible rfl
      | ((with_reducible refine fitG ?_); first | kernel_rfl | rfl | (simp [fitT, fitF, nS]; done))
      | with_reducible refine andT ?_ ?_
      | with_reducible exact Nat.beq_refl _
      | with_reducible exact fitsI_u8 _
      | ((with_reducible refine decide_eq_true ?_); first | omega | (simp only [SZl, nS]; omega))
      | decide
      | (simp [SZl, slc, allOneD, D.one, allOne, AV.one, nS]; done)
      | (simp [SZl, nS]; omega))
     | ((with_reducible refine gWl ?_); first
      | (refine Wl_isMv rfl ?_; refine Xmv eok rfl rfl rfl rfl ?_)
      | refine Xq eok rfl rfl rfl rfl ?_ ?_
      | refine Xn [0, 1, 4, 5, 6, 7, 8, 9, 10, 11, 12, 13, 29, 81, 87, 102] rfl ?_
      | refine XF (cL) rfl rfl rfl rfl ?_
      | refine XF (cM) rfl rfl rfl rfl ?_
      | refine XF (cA) rfl rfl rfl rfl ?_
      | refine Xa eok rfl rfl rfl rfl rfl ?_ ?_
      | refine Xw eok rfl rfl rfl rfl ?_ ?_
      | refine Xs rfl rfl rfl ?_
      | (refine Xsplit rfl rfl (fun hc => ?_) (fun hc => ?_) <;> (fail_if_success (with_reducible first | exact absurd (hc : true = false) (by decide) | exact absurd (hc : false = true) (by decide))) <;> (try simp only [decide_eq_true_eq, decide_eq_false_iff_not, Bool.not_eq_true', Bool.not_eq_false', beq_iff_eq, beq_eq_false_iff_ne, bne_iff_ne, bne_eq_false_iff_eq, ne_eq, Int.not_lt, Int.not_le, ge_iff_le, gt_iff_lt] at hc) <;> (try (exfalso; omega))))
     | ((with_reducible refine gWd ?_); first
      | (refine Wd_isMv rfl ?_; refine Ymv eok rfl rfl (fun _ => rfl) rfl rfl ?_)
      | refine Yp eok rfl rfl (fun _ => rfl) rfl rfl ?_ ?_
      | refine Yq rfl rfl rfl rfl rfl ?_ ?_
      | refine Ys rfl rfl rfl rfl ?_
      | refine YF (cL) rfl rfl rfl rfl rfl ?_
      | refine YF (cM) rfl rfl rfl rfl rfl ?_
      | refine YF (cA) rfl rfl rfl rfl rfl ?_
      | refine Ya eok rfl rfl rfl rfl rfl rfl ?_ ?_
      | refine Yw eok rfl rfl rfl rfl rfl ?_ ?_
      | refine Yn [0, 1, 4, 5, 6, 7, 8, 9, 10, 11, 12, 13, 29, 81, 87, 102] [] mixed eok (by kernel_rfl) True.intro rfl ?_
      | (refine Ysplit rfl rfl (fun hc => ?_) (fun hc => ?_) <;> (fail_if_success (with_reducible first | exact absurd (hc : true = false) (by decide) | exact absurd (hc : false = true) (by decide))) <;> (try simp only [decide_eq_true_eq, decide_eq_false_iff_not, Bool.not_eq_true', Bool.not_eq_false', beq_iff_eq, beq_eq_false_iff_ne, bne_iff_ne, bne_eq_false_iff_eq, ne_eq, Int.not_lt, Int.not_le, ge_iff_le, gt_iff_lt] at hc) <;> (try (exfalso; omega))))
     | refine W_seq ?_
     | refine W_region ?_
     | refine W_any T.get ?_
     | refine W_skip ?_
     | refine W_ret ?_
     | refine W_block ?_
     | refine W_exit ?_
     | refine W_cond_t rfl ?_
     | refine W_cond_f rfl ?_
     | (refine W_cond rfl (fun hc => ?_) (fun hc => ?_) <;> (try simp only [decide_eq_true_eq, decide_eq_false_iff_not, Bool.not_eq_true', Bool.not_eq_false', beq_iff_eq, beq_eq_false_iff_ne, bne_iff_ne, bne_eq_false_iff_eq, ne_eq, Int.not_lt, Int.not_le, ge_iff_le, gt_iff_lt] at hc) <;> (try (exfalso; omega))))
    refine W_loopI (fun k => k ≤ all.length) (fun k : Nat => ⟨[(4, .d (.b false)), (5, .d (itemsD all)), (10, .ptr 3 0 4), (11, .d (.b false)), (12, .d (.b true)), (13, .d (.i .i64 k))], [.gone, .gone, .gone, .c [.d (.s zk), .d (.i .i64 zv), .d (.i .i64 zw), .d (.b zg)]], 124⟩) (fun k => all.length - k) 0 (Nat.zero_le _) ?_ (Nat.le_of_ble_eq_true rfl) ?_
    · exact TSub.cut rfl (by repeat' (first | exact True.intro | refine And.intro (by (first | rfl | ((with_reducible_and_instances refine congrArg (fun z => some (AV.d (D.i _ z))) ?_); omega) | (refine congrArg (fun z => some (AV.d (D.i _ z))) (?_ : (_ : Int) = _); omega) | (refine congrArg some ?_; simp; done))) ?_)) (by repeat' (first | exact True.intro | refine And.intro (Or.inr rfl) ?_ | refine And.intro (Or.inl ⟨rfl, rfl⟩) ?_ | refine And.intro (Or.inr (by simp)) ?_)) (by first | rfl | (simp (decide := true) [heapOk, Blk.ok, AV.oks, AV.ok, hk]; done)) rfl
    intro k hk
    by_cases hkl : k < all.length
    · obtain ⟨x, hx⟩ := get_of hkl
      have cP := rPair_fn x
      rw [hno x (List.mem_of_getElem? hx)] at cP
      have nS := True.intro
      repeat' (first
       | ((with_reducible refine sg ?_); first
        | with_reducible rfl
        | ((with_reducible refine fitG ?_); first | kernel_rfl | rfl | (simp [fitT, fitF, nS]; done))
        | with_reducible refine andT ?_ ?_
        | with_reducible exact Nat.beq_refl _
        | with_reducible exact fitsI_u8 _
        | ((with_reducible refine decide_eq_true ?_); first | omega | (simp only [SZl, nS]; omega))
        | decide
        | (simp [SZl, slc, allOneD, D.one, allOne, AV.one, nS]; done)
        | (simp [SZl, nS]; omega))
       | ((with_reducible refine gWl ?_); first
        | (refine Wl_isMv rfl ?_; refine Xmv eok rfl rfl rfl rfl ?_)
        | (refine Wl_isIx rfl ?_; refine Xix eok rfl rfl rfl rfl rfl (Int.natCast_nonneg _) (ix_map hx) ?_)
        | refine Xq eok rfl rfl rfl rfl ?_ ?_
        | refine Xn [0, 1, 4, 5, 6, 7, 8, 9, 10, 11, 12, 13, 29, 81, 87, 102] rfl ?_
        | refine XF (cP) rfl rfl rfl rfl ?_
        | refine Xa eok rfl rfl rfl rfl rfl ?_ ?_
        | refine Xw eok rfl rfl rfl rfl ?_ ?_
        | refine Xs rfl rfl rfl ?_
        | (refine Xsplit rfl rfl (fun hc => ?_) (fun hc => ?_) <;> (fail_if_success (with_reducible first | exact absurd (hc : true = false) (by decide) | exact absurd (hc : false = true) (by decide))) <;> (try simp only [decide_eq_true_eq, decide_eq_false_iff_not, Bool.not_eq_true', Bool.not_eq_false', beq_iff_eq, beq_eq_false_iff_ne, bne_iff_ne, bne_eq_false_iff_eq, ne_eq, Int.not_lt, Int.not_le, ge_iff_le, gt_iff_lt] at hc) <;> (try (exfalso; omega))))
       | ((with_reducible refine gWd ?_); first
        | (refine Wd_isMv rfl ?_; refine Ymv eok rfl rfl (fun _ => rfl) rfl rfl ?_)
        | (refine Wd_isIx rfl ?_; refine Yix eok rfl rfl (fun _ => rfl) rfl rfl rfl (Int.natCast_nonneg _) (ix_map hx) ?_)
        | refine Yp eok rfl rfl (fun _ => rfl) rfl rfl ?_ ?_
        | refine Yq rfl rfl rfl rfl rfl ?_ ?_
        | refine Ys rfl rfl rfl rfl ?_
        | refine YF (cP) rfl rfl rfl rfl rfl ?_
        | refine Ya eok rfl rfl rfl rfl rfl rfl ?_ ?_
        | refine Yw eok rfl rfl rfl rfl rfl ?_ ?_
        | refine Yn [0, 1, 4, 5, 6, 7, 8, 9, 10, 11, 12, 13, 29, 81, 87, 102] [] mixed eok (by kernel_rfl) True.intro rfl ?_
        | (refine Ysplit rfl rfl (fun hc => ?_) (fun hc => ?_) <;> (fail_if_success (with_reducible first | exact absurd (hc : true = false) (by decide) | exact absurd (hc : false = true) (by decide))) <;> (try simp only [decide_eq_true_eq, decide_eq_false_iff_not, Bool.not_eq_true', Bool.not_eq_false', beq_iff_eq, beq_eq_false_iff_ne, bne_iff_ne, bne_eq_false_iff_eq, ne_eq, Int.not_lt, Int.not_le, ge_iff_le, gt_iff_lt] at hc) <;> (try (exfalso; omega))))
       | refine W_seq ?_
       | refine W_region ?_
       | refine W_any T.get ?_
       | refine W_skip ?_
       | refine W_ret ?_
       | refine W_block ?_
       | refine W_exit ?_
       | refine W_cond_t rfl ?_
       | refine W_cond_f rfl ?_
       | (refine W_cond rfl (fun hc => ?_) (fun hc => ?_) <;> (try simp only [decide_eq_true_eq, decide_eq_false_iff_not, Bool.not_eq_true', Bool.not_eq_false', beq_iff_eq, beq_eq_false_iff_ne, bne_iff_ne, bne_eq_false_iff_eq, ne_eq, Int.not_lt, Int.not_le, ge_iff_le, gt_iff_lt] at hc) <;> (try (exfalso; omega))))
      refine ⟨k + 1, hkl, by omega, Nat.le_refl _, ?_⟩
      exact TSub.cut rfl (by repeat' (first | exact True.intro | refine And.intro (by (first | rfl | ((with_reducible_and_instances refine congrArg (fun z => some (AV.d (D.i _ z))) ?_); omega) | (refine congrArg (fun z => some (AV.d (D.i _ z))) (?_ : (_ : Int) = _); omega) | (refine congrArg some ?_; simp; done))) ?_)) (by repeat' (first | exact True.intro | refine And.intro (Or.inr rfl) ?_ | refine And.intro (Or.inl ⟨rfl, rfl⟩) ?_ | refine And.intro (Or.inr (by simp)) ?_)) (by first | rfl | (simp (decide := true) [heapOk, Blk.ok, AV.oks, AV.ok, hk]; done)) rfl
    · have e : k = all.length := by omega
      subst e
      have nS := True.intro
      repeat' (first
       | ((with_reducible refine sg ?_); first
        | with_reducible rfl
        | ((with_reducible refine fitG ?_); first | kernel_rfl | rfl | (simp [fitT, fitF, nS]; done))
        | with_reducible refine andT ?_ ?_
        | with_reducible exact Nat.beq_refl _
        | with_reducible exact fitsI_u8 _
        | ((with_reducible refine decide_eq_true ?_); first | omega | (simp only [SZl, nS]; omega))
        | decide
        | (simp [SZl, slc, allOneD, D.one, allOne, AV.one, nS]; done)
        | (simp [SZl, nS]; omega))
       | ((with_reducible refine gWl ?_); first
        | (refine Wl_isMv rfl ?_; refine Xmv eok rfl rfl rfl rfl ?_)
        | refine Xq eok rfl rfl rfl rfl ?_ ?_
        | refine Xn [0, 1, 4, 5, 6, 7, 8, 9, 10, 11, 12, 13, 29, 81, 87, 102] rfl ?_
        | refine XF (wakes_fn) rfl rfl rfl rfl ?_
        | refine Xa eok rfl rfl rfl rfl rfl ?_ ?_
        | refine Xw eok rfl rfl rfl rfl ?_ ?_
        | refine Xs rfl rfl rfl ?_
        | (refine Xsplit rfl rfl (fun hc => ?_) (fun hc => ?_) <;> (fail_if_success (with_reducible first | exact absurd (hc : true = false) (by decide) | exact absurd (hc : false = true) (by decide))) <;> (try simp only [decide_eq_true_eq, decide_eq_false_iff_not, Bool.not_eq_true', Bool.not_eq_false', beq_iff_eq, beq_eq_false_iff_ne, bne_iff_ne, bne_eq_false_iff_eq, ne_eq, Int.not_lt, Int.not_le, ge_iff_le, gt_iff_lt] at hc) <;> (try (exfalso; omega))))
       | ((with_reducible refine gWd ?_); first
        | (refine Wd_isMv rfl ?_; refine Ymv eok rfl rfl (fun _ => rfl) rfl rfl ?_)
        | refine Yp eok rfl rfl (fun _ => rfl) rfl rfl ?_ ?_
        | refine Yq rfl rfl rfl rfl rfl ?_ ?_
        | refine Ys rfl rfl rfl rfl ?_
        | refine YF (wakes_fn) rfl rfl rfl rfl rfl ?_
        | refine Ya eok rfl rfl rfl rfl rfl rfl ?_ ?_
        | refine Yw eok rfl rfl rfl rfl rfl ?_ ?_
        | refine Yn [0, 1, 4, 5, 6, 7, 8, 9, 10, 11, 12, 13, 29, 81, 87, 102] [] mixed eok (by kernel_rfl) True.intro rfl ?_
        | (refine Ysplit rfl rfl (fun hc => ?_) (fun hc => ?_) <;> (fail_if_success (with_reducible first | exact absurd (hc : true = false) (by decide) | exact absurd (hc : false = true) (by decide))) <;> (try simp only [decide_eq_true_eq, decide_eq_false_iff_not, Bool.not_eq_true', Bool.not_eq_false', beq_iff_eq, beq_eq_false_iff_ne, bne_iff_ne, bne_eq_false_iff_eq, ne_eq, Int.not_lt, Int.not_le, ge_iff_le, gt_iff_lt] at hc) <;> (try (exfalso; omega))))
       | refine W_seq ?_
       | refine W_region ?_
       | refine W_any T.get ?_
       | refine W_skip ?_
       | refine W_ret ?_
       | refine W_block ?_
       | refine W_exit ?_
       | refine W_cond_t rfl ?_
       | refine W_cond_f rfl ?_
       | (refine W_cond rfl (fun hc => ?_) (fun hc => ?_) <;> (try simp only [decide_eq_true_eq, decide_eq_false_iff_not, Bool.not_eq_true', Bool.not_eq_false', beq_iff_eq, beq_eq_false_iff_ne, bne_iff_ne, bne_eq_false_iff_eq, ne_eq, Int.not_lt, Int.not_le, ge_iff_le, gt_iff_lt] at hc) <;> (try (exfalso; omega))))
      refine ⟨_, _, rfl, rfl, ?_⟩; simp [Frz_tup, Frz_ag, Frzs_cons, Frzs_nil, Frz_d, Frz_e0, Frz_sl, sln, isSl, slOk]
end Go.Proofs.Ytflikcmbbljgeaa
