/- Written by a program (pre.py) from the source of the same name. -/
/- Pairs: the law that all is as the document tells. -/
import Derived.Test.YtflikcmbbljgeaaItemB
set_option linter.unusedSimpArgs false
set_option linter.unusedVariables false
set_option linter.unnecessarySimpa false
namespace Go.Proofs.Ytflikcmbbljgeaa
open Go.Gar
set_option maxRecDepth 4000

set_option maxHeartbeats 8000000 in
theorem itemTells_fn (a b : Item) (l : List Item) (key : List UInt8) (ha : -9223372036854775808 ≤ a.version) : Go.Gar.Fn Try.prog 3 [a.d, b.d, itemsD l, .s key] (.b true) := by
  have cG := great_fn [a, b]
  have cH := great_fn l
  refine Fn_of_W eok Try.func3 rfl rfl (Nat.le_of_ble_eq_true rfl) ?_
  cases hg : greatI [a, b] with
  | true =>
    rw [hg] at cG
    obtain ⟨ak, av, an, ag⟩ := a
    obtain ⟨bk, bv, bn, bg⟩ := b
    have nS := True.intro
    repeat' (first
     | ((with_reducible refine sg ?_); first
      | with_reducible rfl
      | ((with_reducible refine fitG ?_); first | kernel_rfl | rfl | (simp [fitT, fitF, nS]; done))
      | with_reducible refine andT ?_ ?_
      | with_reducible exact Nat.beq_refl _
      | with_reducible exact fitsI_u8 _
      | ((with_reducible refine decide_eq_true ?_); first | omega | (simp only [SZl, nS]; omega))
      | decide
      | (simp [SZl, slc, allOneD, D.one, allOne, AV.one, nS]; done)
      | (simp [SZl, nS]; omega))
     | ((with_reducible refine gWl ?_); first
      | (refine Wl_isMv rfl ?_; refine Xmv eok rfl rfl rfl rfl ?_)
      | refine Xq eok rfl rfl rfl rfl ?_ ?_
      | refine Xn [0, 1, 2, 3, 4, 5, 8, 9, 10, 11, 12, 13, 14, 15, 28, 68, 72, 83] rfl ?_
      | refine XF (cG) rfl rfl rfl rfl ?_
      | refine XF (wakes_fn) rfl rfl rfl rfl ?_
      | refine Xa eok rfl rfl rfl rfl rfl ?_ ?_
      | refine Xw eok rfl rfl rfl rfl ?_ ?_
      | refine Xs rfl rfl rfl ?_
      | (refine Xsplit rfl rfl (fun hc => ?_) (fun hc => ?_) <;> (fail_if_success (with_reducible first | exact absurd (hc : true = false) (by decide) | exact absurd (hc : false = true) (by decide))) <;> (try simp only [decide_eq_true_eq, decide_eq_false_iff_not, Bool.not_eq_true', Bool.not_eq_false', beq_iff_eq, beq_eq_false_iff_ne, bne_iff_ne, bne_eq_false_iff_eq, ne_eq, Int.not_lt, Int.not_le, ge_iff_le, gt_iff_lt] at hc) <;> (try (exfalso; omega))))
     | ((with_reducible refine gWd ?_); first
      | (refine Wd_isMv rfl ?_; refine Ymv eok rfl rfl (fun _ => rfl) rfl rfl ?_)
      | refine Yp eok rfl rfl (fun _ => rfl) rfl rfl ?_ ?_
      | refine Yq rfl rfl rfl rfl rfl ?_ ?_
      | refine Ys rfl rfl rfl rfl ?_
      | refine YF (cG) rfl rfl rfl rfl rfl ?_
      | refine YF (wakes_fn) rfl rfl rfl rfl rfl ?_
      | refine Ya eok rfl rfl rfl rfl rfl rfl ?_ ?_
      | refine Yw eok rfl rfl rfl rfl rfl ?_ ?_
      | refine Yn [0, 1, 2, 3, 4, 5, 8, 9, 10, 11, 12, 13, 14, 15, 28, 68, 72, 83] [] mixed eok (by kernel_rfl) True.intro rfl ?_
      | (refine Ysplit rfl rfl (fun hc => ?_) (fun hc => ?_) <;> (fail_if_success (with_reducible first | exact absurd (hc : true = false) (by decide) | exact absurd (hc : false = true) (by decide))) <;> (try simp only [decide_eq_true_eq, decide_eq_false_iff_not, Bool.not_eq_true', Bool.not_eq_false', beq_iff_eq, beq_eq_false_iff_ne, bne_iff_ne, bne_eq_false_iff_eq, ne_eq, Int.not_lt, Int.not_le, ge_iff_le, gt_iff_lt] at hc) <;> (try (exfalso; omega))))
     | refine W_seq ?_
     | refine W_region ?_
     | refine W_any T.get ?_
     | refine W_skip ?_
     | refine W_ret ?_
     | refine W_block ?_
     | refine W_exit ?_
     | refine W_cond_t rfl ?_
     | refine W_cond_f rfl ?_
     | (refine W_cond rfl (fun hc => ?_) (fun hc => ?_) <;> (try simp only [decide_eq_true_eq, decide_eq_false_iff_not, Bool.not_eq_true', Bool.not_eq_false', beq_iff_eq, beq_eq_false_iff_ne, bne_iff_ne, bne_eq_false_iff_eq, ne_eq, Int.not_lt, Int.not_le, ge_iff_le, gt_iff_lt] at hc) <;> (try (exfalso; omega))))
    refine ⟨_, _, rfl, rfl, ?_⟩; simp [Frz_tup, Frz_ag, Frzs_cons, Frzs_nil, Frz_d, Frz_e0, Frz_sl, sln, isSl, slOk]
  | false =>
  rw [hg] at cG
  cases hh : greatI l with
  | true =>
    rw [hh] at cH
    obtain ⟨ak, av, an, ag⟩ := a
    obtain ⟨bk, bv, bn, bg⟩ := b
    have nS := True.intro
    repeat' (first
     | ((with_reducible refine sg ?_); first
      | with_reducible rfl
      | ((with_reducible refine fitG ?_); first | kernel_rfl | rfl | (simp [fitT, fitF, nS]; done))
      | with_reducible refine andT ?_ ?_
      | with_reducible exact Nat.beq_refl _
      | with_reducible exact fitsI_u8 _
      | ((with_reducible refine decide_eq_true ?_); first | omega | (simp only [SZl, nS]; omega))
      | decide
      | (simp [SZl, slc, allOneD, D.one, allOne, AV.one, nS]; done)
      | (simp [SZl, nS]; omega))
     | ((with_reducible refine gWl ?_); first
      | (refine Wl_isMv rfl ?_; refine Xmv eok rfl rfl rfl rfl ?_)
      | refine Xq eok rfl rfl rfl rfl ?_ ?_
      | refine Xn [0, 1, 2, 3, 4, 5, 8, 9, 10, 11, 12, 13, 14, 15, 28, 68, 72, 83] rfl ?_
      | refine XF (cG) rfl rfl rfl rfl ?_
      | refine XF (cH) rfl rfl rfl rfl ?_
      | refine XF (wakes_fn) rfl rfl rfl rfl ?_
      | refine Xa eok rfl rfl rfl rfl rfl ?_ ?_
      | refine Xw eok rfl rfl rfl rfl ?_ ?_
      | refine Xs rfl rfl rfl ?_
      | (refine Xsplit rfl rfl (fun hc => ?_) (fun hc => ?_) <;> (fail_if_success (with_reducible first | exact absurd (hc : true = false) (by decide) | exact absurd (hc : false = true) (by decide))) <;> (try simp only [decide_eq_true_eq, decide_eq_false_iff_not, Bool.not_eq_true', Bool.not_eq_false', beq_iff_eq, beq_eq_false_iff_ne, bne_iff_ne, bne_eq_false_iff_eq, ne_eq, Int.not_lt, Int.not_le, ge_iff_le, gt_iff_lt] at hc) <;> (try (exfalso; omega))))
     | ((with_reducible refine gWd ?_); first
      | (refine Wd_isMv rfl ?_; refine Ymv eok rfl rfl (fun _ => rfl) rfl rfl ?_)
      | refine Yp eok rfl rfl (fun _ => rfl) rfl rfl ?_ ?_
      | refine Yq rfl rfl rfl rfl rfl ?_ ?_
      | refine Ys rfl rfl rfl rfl ?_
      | refine YF (cG) rfl rfl rfl rfl rfl ?_
      | refine YF (cH) rfl rfl rfl rfl rfl ?_
      | refine YF (wakes_fn) rfl rfl rfl rfl rfl ?_
      | refine Ya eok rfl rfl rfl rfl rfl rfl ?_ ?_
      | refine Yw eok rfl rfl rfl rfl rfl ?_ ?_
      | refine Yn [0, 1, 2, 3, 4, 5, 8, 9, 10, 11, 12, 13, 14, 15, 28, 68, 72, 83] [] mixed eok (by kernel_rfl) True.intro rfl ?_
      | (refine Ysplit rfl rfl (fun hc => ?_) (fun hc => ?_) <;> (fail_if_success (with_reducible first | exact absurd (hc : true = false) (by decide) | exact absurd (hc : false = true) (by decide))) <;> (try simp only [decide_eq_true_eq, decide_eq_false_iff_not, Bool.not_eq_true', Bool.not_eq_false', beq_iff_eq, beq_eq_false_iff_ne, bne_iff_ne, bne_eq_false_iff_eq, ne_eq, Int.not_lt, Int.not_le, ge_iff_le, gt_iff_lt] at hc) <;> (try (exfalso; omega))))
     | refine W_seq ?_
     | refine W_region ?_
     | refine W_any T.get ?_
     | refine W_skip ?_
     | refine W_ret ?_
     | refine W_block ?_
     | refine W_exit ?_
     | refine W_cond_t rfl ?_
     | refine W_cond_f rfl ?_
     | (refine W_cond rfl (fun hc => ?_) (fun hc => ?_) <;> (try simp only [decide_eq_true_eq, decide_eq_false_iff_not, Bool.not_eq_true', Bool.not_eq_false', beq_iff_eq, beq_eq_false_iff_ne, bne_iff_ne, bne_eq_false_iff_eq, ne_eq, Int.not_lt, Int.not_le, ge_iff_le, gt_iff_lt] at hc) <;> (try (exfalso; omega))))
    refine ⟨_, _, rfl, rfl, ?_⟩; simp [Frz_tup, Frz_ag, Frzs_cons, Frzs_nil, Frz_d, Frz_e0, Frz_sl, sln, isSl, slOk]
  | false =>
  rw [hh] at cH
  by_cases h1 : key.length > 100
  · obtain ⟨ak, av, an, ag⟩ := a
    obtain ⟨bk, bv, bn, bg⟩ := b
    have nS := True.intro
    repeat' (first
     | ((with_reducible refine sg ?_); first
      | with_reducible rfl
      | ((with_reducible refine fitG ?_); first | kernel_rfl | rfl | (simp [fitT, fitF, nS]; done))
      | with_reducible refine andT ?_ ?_
      | with_reducible exact Nat.beq_refl _
      | with_reducible exact fitsI_u8 _
      | ((with_reducible refine decide_eq_true ?_); first | omega | (simp only [SZl, nS]; omega))
      | decide
      | (simp [SZl, slc, allOneD, D.one, allOne, AV.one, nS]; done)
      | (simp [SZl, nS]; omega))
     | ((with_reducible refine gWl ?_); first
      | (refine Wl_isMv rfl ?_; refine Xmv eok rfl rfl rfl rfl ?_)
      | refine Xq eok rfl rfl rfl rfl ?_ ?_
      | refine Xn [0, 1, 2, 3, 4, 5, 8, 9, 10, 11, 12, 13, 14, 15, 28, 68, 72, 83] rfl ?_
      | refine XF (cG) rfl rfl rfl rfl ?_
      | refine XF (cH) rfl rfl rfl rfl ?_
      | refine XF (wakes_fn) rfl rfl rfl rfl ?_
      | refine Xa eok rfl rfl rfl rfl rfl ?_ ?_
      | refine Xw eok rfl rfl rfl rfl ?_ ?_
      | refine Xs rfl rfl rfl ?_
      | (refine Xsplit rfl rfl (fun hc => ?_) (fun hc => ?_) <;> (fail_if_success (with_reducible first | exact absurd (hc : true = false) (by decide) | exact absurd (hc : false = true) (by decide))) <;> (try simp only [decide_eq_true_eq, decide_eq_false_iff_not, Bool.not_eq_true', Bool.not_eq_false', beq_iff_eq, beq_eq_false_iff_ne, bne_iff_ne, bne_eq_false_iff_eq, ne_eq, Int.not_lt, Int.not_le, ge_iff_le, gt_iff_lt] at hc) <;> (try (exfalso; omega))))
     | ((with_reducible refine gWd ?_); first
      | (refine Wd_isMv rfl ?_; refine Ymv eok rfl rfl (fun _ => rfl) rfl rfl ?_)
      | refine Yp eok rfl rfl (fun _ => rfl) rfl rfl ?_ ?_
      | refine Yq rfl rfl rfl rfl rfl ?_ ?_
      | refine Ys rfl rfl rfl rfl ?_
      | refine YF (cG) rfl rfl rfl rfl rfl ?_
      | refine YF (cH) rfl rfl rfl rfl rfl ?_
      | refine YF (wakes_fn) rfl rfl rfl rfl rfl ?_
      | refine Ya eok rfl rfl rfl rfl rfl rfl ?_ ?_
      | refine Yw eok rfl rfl rfl rfl rfl ?_ ?_
      | refine Yn [0, 1, 2, 3, 4, 5, 8, 9, 10, 11, 12, 13, 14, 15, 28, 68, 72, 83] [] mixed eok (by kernel_rfl) True.intro rfl ?_
      | (refine Ysplit rfl rfl (fun hc => ?_) (fun hc => ?_) <;> (fail_if_success (with_reducible first | exact absurd (hc : true = false) (by decide) | exact absurd (hc : false = true) (by decide))) <;> (try simp only [decide_eq_true_eq, decide_eq_false_iff_not, Bool.not_eq_true', Bool.not_eq_false', beq_iff_eq, beq_eq_false_iff_ne, bne_iff_ne, bne_eq_false_iff_eq, ne_eq, Int.not_lt, Int.not_le, ge_iff_le, gt_iff_lt] at hc) <;> (try (exfalso; omega))))
     | refine W_seq ?_
     | refine W_region ?_
     | refine W_any T.get ?_
     | refine W_skip ?_
     | refine W_ret ?_
     | refine W_block ?_
     | refine W_exit ?_
     | refine W_cond_t rfl ?_
     | refine W_cond_f rfl ?_
     | (refine W_cond rfl (fun hc => ?_) (fun hc => ?_) <;> (try simp only [decide_eq_true_eq, decide_eq_false_iff_not, Bool.not_eq_true', Bool.not_eq_false', beq_iff_eq, beq_eq_false_iff_ne, bne_iff_ne, bne_eq_false_iff_eq, ne_eq, Int.not_lt, Int.not_le, ge_iff_le, gt_iff_lt] at hc) <;> (try (exfalso; omega))))
    refine ⟨_, _, rfl, rfl, ?_⟩; simp [Frz_tup, Frz_ag, Frzs_cons, Frzs_nil, Frz_d, Frz_e0, Frz_sl, sln, isSl, slOk]
  have hl : l.length ≤ 40 := by
    simp only [greatI, Bool.or_eq_false_iff, decide_eq_false_iff_not] at hh; omega
  have c1 := Newest_fn l (by omega)
  have c2 := rNewest_fn l (by omega)
  have c3 := Keys_fn l (by omega)
  have c4 := rKeys_fn l (by omega)
  have c5 := Of_fn key l (by omega)
  have c6 := rOf_fn key l (by omega)
  have hk := ofK_len key l
  have c7 := items_fn (ofK key l) (ofK key l) (by omega)
  rw [decide_eq_true rfl] at c7
  have c8 := Cmp_fn a b
  have c9 := rCmp_fn a b
  have d1 := Newer_fn a b
  have d2 := rNewer_fn a b
  have d3 := Gone_fn a ha
  have d4 := rGone_fn a ha
  have hlen : (keysT l).length ≤ 40 := by
    have := rk_len l; rw [rk_eq] at this; omega
  generalize goneT a = g at *
  generalize nwT l = z at *
  generalize keysT l = ks at *
  generalize cmpT a b = n at *
  obtain ⟨⟨zk, zv, zn, zg⟩, zf⟩ := z
  obtain ⟨ak, av, an, ag⟩ := a
  obtain ⟨bk, bv, bn, bg⟩ := b
  obtain ⟨gk, gv, gn, gg⟩ := g
  have hz := (item_eqX ⟨zk, zv, zn, zg⟩ ⟨zk, zv, zn, zg⟩).trans (decide_eq_true rfl)
  have hG := (item_eqX ⟨gk, gv, gn, gg⟩ ⟨gk, gv, gn, gg⟩).trans (decide_eq_true rfl)
  have hG2 := (item_eqL ⟨gk, gv, gn, gg⟩ ⟨gk, gv, gn, gg⟩).trans (decide_eq_true rfl)
  have nS := hz
  repeat' (first
   | ((with_reducible refine sg ?_); first
    | with_reducible rfl
    | ((with_reducible refine fitG ?_); first | kernel_rfl | rfl | (simp [fitT, fitF, nS]; done))
    | with_reducible refine andT ?_ ?_
    | with_reducible exact Nat.beq_refl _
    | with_reducible exact fitsI_u8 _
    | ((with_reducible refine decide_eq_true ?_); first | omega | (simp only [SZl, nS]; omega))
    | decide
    | (simp [SZl, slc, allOneD, D.one, allOne, AV.one, nS]; done)
    | (simp [SZl, nS]; omega))
   | ((with_reducible refine gWl ?_); first
    | (refine Wl_isMv rfl ?_; refine Xmv eok rfl rfl rfl rfl ?_)
    | refine Xq eok rfl rfl rfl rfl ?_ ?_
    | refine Xn [0, 1, 2, 3, 4, 5, 8, 9, 10, 11, 12, 13, 14, 15, 28, 68, 72, 83] rfl ?_
    | refine XF (cG) rfl rfl rfl rfl ?_
    | refine XF (cH) rfl rfl rfl rfl ?_
    | refine XF (c1) rfl rfl rfl rfl ?_
    | refine XF (c2) rfl rfl rfl rfl ?_
    | refine XF (c3) rfl rfl rfl rfl ?_
    | refine XF (c4) rfl rfl rfl rfl ?_
    | refine XF (c5) rfl rfl rfl rfl ?_
    | refine XF (c6) rfl rfl rfl rfl ?_
    | refine XF (c7) rfl rfl rfl rfl ?_
    | refine Xa eok rfl rfl rfl rfl rfl ?_ ?_
    | refine Xw eok rfl rfl rfl rfl ?_ ?_
    | refine Xs rfl rfl rfl ?_
    | (refine Xsplit rfl rfl (fun hc => ?_) (fun hc => ?_) <;> (fail_if_success (with_reducible first | exact absurd (hc : true = false) (by decide) | exact absurd (hc : false = true) (by decide))) <;> (try simp only [decide_eq_true_eq, decide_eq_false_iff_not, Bool.not_eq_true', Bool.not_eq_false', beq_iff_eq, beq_eq_false_iff_ne, bne_iff_ne, bne_eq_false_iff_eq, ne_eq, Int.not_lt, Int.not_le, ge_iff_le, gt_iff_lt] at hc) <;> (try (exfalso; omega))))
   | ((with_reducible refine gWd ?_); first
    | (refine Wd_isMv rfl ?_; refine Ymv eok rfl rfl (fun _ => rfl) rfl rfl ?_)
    | refine Yp eok rfl rfl (fun _ => rfl) rfl rfl ?_ ?_
    | refine Yq rfl rfl rfl rfl rfl ?_ ?_
    | refine Ys rfl rfl rfl rfl ?_
    | refine YF (cG) rfl rfl rfl rfl rfl ?_
    | refine YF (cH) rfl rfl rfl rfl rfl ?_
    | refine YF (c1) rfl rfl rfl rfl rfl ?_
    | refine YF (c2) rfl rfl rfl rfl rfl ?_
    | refine YF (c3) rfl rfl rfl rfl rfl ?_
    | refine YF (c4) rfl rfl rfl rfl rfl ?_
    | refine YF (c5) rfl rfl rfl rfl rfl ?_
    | refine YF (c6) rfl rfl rfl rfl rfl ?_
    | refine YF (c7) rfl rfl rfl rfl rfl ?_
    | refine Ya eok rfl rfl rfl rfl rfl rfl ?_ ?_
    | refine Yw eok rfl rfl rfl rfl rfl ?_ ?_
    | refine Yn [0, 1, 2, 3, 4, 5, 8, 9, 10, 11, 12, 13, 14, 15, 28, 68, 72, 83] [] mixed eok (by kernel_rfl) True.intro rfl ?_
    | (refine Ysplit rfl rfl (fun hc => ?_) (fun hc => ?_) <;> (fail_if_success (with_reducible first | exact absurd (hc : true = false) (by decide) | exact absurd (hc : false = true) (by decide))) <;> (try simp only [decide_eq_true_eq, decide_eq_false_iff_not, Bool.not_eq_true', Bool.not_eq_false', beq_iff_eq, beq_eq_false_iff_ne, bne_iff_ne, bne_eq_false_iff_eq, ne_eq, Int.not_lt, Int.not_le, ge_iff_le, gt_iff_lt] at hc) <;> (try (exfalso; omega))))
   | refine W_seq ?_
   | refine W_region ?_
   | refine W_any T.get ?_
   | refine W_skip ?_
   | refine W_ret ?_
   | refine W_block ?_
   | refine W_exit ?_
   | refine W_cond_t rfl ?_
   | refine W_cond_f rfl ?_
   | (refine W_cond rfl (fun hc => ?_) (fun hc => ?_) <;> (try simp only [decide_eq_true_eq, decide_eq_false_iff_not, Bool.not_eq_true', Bool.not_eq_false', beq_iff_eq, beq_eq_false_iff_ne, bne_iff_ne, bne_eq_false_iff_eq, ne_eq, Int.not_lt, Int.not_le, ge_iff_le, gt_iff_lt] at hc) <;> (try (exfalso; omega))))
  refine W_loopI (fun k => k ≤ ks.length) (fun k : Nat => ⟨[(4, .ptr 0 0 4), (5, .ptr 1 0 4), (8, .d (.b false)), (13, .d (strsD ks)), (14, .d (strsD ks)), (15, .d (.i .i64 k))], [.c [.d (.s ak), .d (.i .i64 av), .d (.i .i64 an), .d (.b ag)], .c [.d (.s bk), .d (.i .i64 bv), .d (.i .i64 bn), .d (.b bg)], .gone, .gone], 110⟩) (fun k => ks.length - k) 0 (Nat.zero_le _) ?_ (Nat.le_of_ble_eq_true rfl) ?_
  · exact TSub.cut rfl (by repeat' (first | exact True.intro | refine And.intro (by (first | rfl | ((with_reducible_and_instances refine congrArg (fun z => some (AV.d (D.i _ z))) ?_); omega) | (refine congrArg (fun z => some (AV.d (D.i _ z))) (?_ : (_ : Int) = _); omega) | (refine congrArg some ?_; simp; done))) ?_)) (by repeat' (first | exact True.intro | refine And.intro (Or.inr rfl) ?_ | refine And.intro (Or.inl ⟨rfl, rfl⟩) ?_ | refine And.intro (Or.inr (by simp)) ?_)) (by first | rfl | (simp (decide := true) [heapOk, Blk.ok, AV.oks, AV.ok, hk]; done)) rfl
  intro k hk
  by_cases hkl : k < ks.length
  · obtain ⟨y, hy⟩ := get_of hkl
    have nS := True.intro
    repeat' (first
     | ((with_reducible refine sg ?_); first
      | with_reducible rfl
      | ((with_reducible refine fitG ?_); first | kernel_rfl | rfl | (simp [fitT, fitF, nS]; done))
      | with_reducible refine andT ?_ ?_
      | with_reducible exact Nat.beq_refl _
      | with_reducible exact fitsI_u8 _
      | ((with_reducible refine decide_eq_true ?_); first | omega | (simp only [SZl, nS]; omega))
      | decide
      | (simp [SZl, slc, allOneD, D.one, allOne, AV.one, nS]; done)
      | (simp [SZl, nS]; omega))
     | ((with_reducible refine gWl ?_); first
      | (refine Wl_isMv rfl ?_; refine Xmv eok rfl rfl rfl rfl ?_)
      | (refine Wl_isIx rfl ?_; refine Xix eok rfl rfl rfl rfl rfl (Int.natCast_nonneg _) (ix_map hy) ?_)
      | refine Xq eok rfl rfl rfl rfl ?_ ?_
      | refine Xn [0, 1, 2, 3, 4, 5, 8, 9, 10, 11, 12, 13, 14, 15, 28, 68, 72, 83] rfl ?_
      | refine Xa eok rfl rfl rfl rfl rfl ?_ ?_
      | refine Xw eok rfl rfl rfl rfl ?_ ?_
      | refine Xs rfl rfl rfl ?_
      | (refine Xsplit rfl rfl (fun hc => ?_) (fun hc => ?_) <;> (fail_if_success (with_reducible first | exact absurd (hc : true = false) (by decide) | exact absurd (hc : false = true) (by decide))) <;> (try simp only [decide_eq_true_eq, decide_eq_false_iff_not, Bool.not_eq_true', Bool.not_eq_false', beq_iff_eq, beq_eq_false_iff_ne, bne_iff_ne, bne_eq_false_iff_eq, ne_eq, Int.not_lt, Int.not_le, ge_iff_le, gt_iff_lt] at hc) <;> (try (exfalso; omega))))
     | ((with_reducible refine gWd ?_); first
      | (refine Wd_isMv rfl ?_; refine Ymv eok rfl rfl (fun _ => rfl) rfl rfl ?_)
      | (refine Wd_isIx rfl ?_; refine Yix eok rfl rfl (fun _ => rfl) rfl rfl rfl (Int.natCast_nonneg _) (ix_map hy) ?_)
      | refine Yp eok rfl rfl (fun _ => rfl) rfl rfl ?_ ?_
      | refine Yq rfl rfl rfl rfl rfl ?_ ?_
      | refine Ys rfl rfl rfl rfl ?_
      | refine Ya eok rfl rfl rfl rfl rfl rfl ?_ ?_
      | refine Yw eok rfl rfl rfl rfl rfl ?_ ?_
      | refine Yn [0, 1, 2, 3, 4, 5, 8, 9, 10, 11, 12, 13, 14, 15, 28, 68, 72, 83] [] mixed eok (by kernel_rfl) True.intro rfl ?_
      | (refine Ysplit rfl rfl (fun hc => ?_) (fun hc => ?_) <;> (fail_if_success (with_reducible first | exact absurd (hc : true = false) (by decide) | exact absurd (hc : false = true) (by decide))) <;> (try simp only [decide_eq_true_eq, decide_eq_false_iff_not, Bool.not_eq_true', Bool.not_eq_false', beq_iff_eq, beq_eq_false_iff_ne, bne_iff_ne, bne_eq_false_iff_eq, ne_eq, Int.not_lt, Int.not_le, ge_iff_le, gt_iff_lt] at hc) <;> (try (exfalso; omega))))
     | refine W_seq ?_
     | refine W_region ?_
     | refine W_any T.get ?_
     | refine W_skip ?_
     | refine W_ret ?_
     | refine W_block ?_
     | refine W_exit ?_
     | refine W_cond_t rfl ?_
     | refine W_cond_f rfl ?_
     | (refine W_cond rfl (fun hc => ?_) (fun hc => ?_) <;> (try simp only [decide_eq_true_eq, decide_eq_false_iff_not, Bool.not_eq_true', Bool.not_eq_false', beq_iff_eq, beq_eq_false_iff_ne, bne_iff_ne, bne_eq_false_iff_eq, ne_eq, Int.not_lt, Int.not_le, ge_iff_le, gt_iff_lt] at hc) <;> (try (exfalso; omega))))
    refine ⟨k + 1, hkl, by omega, Nat.le_refl _, ?_⟩
    exact TSub.cut rfl (by repeat' (first | exact True.intro | refine And.intro (by (first | rfl | ((with_reducible_and_instances refine congrArg (fun z => some (AV.d (D.i _ z))) ?_); omega) | (refine congrArg (fun z => some (AV.d (D.i _ z))) (?_ : (_ : Int) = _); omega) | (refine congrArg some ?_; simp; done))) ?_)) (by repeat' (first | exact True.intro | refine And.intro (Or.inr rfl) ?_ | refine And.intro (Or.inl ⟨rfl, rfl⟩) ?_ | refine And.intro (Or.inr (by simp)) ?_)) (by first | rfl | (simp (decide := true) [heapOk, Blk.ok, AV.oks, AV.ok, hk]; done)) rfl
  · have e : k = ks.length := by omega
    subst e
    have nS := And.intro hG hG2
    repeat' (first
     | ((with_reducible refine sg ?_); first
      | with_reducible rfl
      | ((with_reducible refine fitG ?_); first | kernel_rfl | rfl | (simp [fitT, fitF, nS]; done))
      | with_reducible refine andT ?_ ?_
      | with_reducible exact Nat.beq_refl _
      | with_reducible exact fitsI_u8 _
      | ((with_reducible refine decide_eq_true ?_); first | omega | (simp only [SZl, nS]; omega))
      | decide
      | (simp [SZl, slc, allOneD, D.one, allOne, AV.one, nS]; done)
      | (simp [SZl, nS]; omega))
     | ((with_reducible refine gWl ?_); first
      | (refine Wl_isMv rfl ?_; refine Xmv eok rfl rfl rfl rfl ?_)
      | refine Xq eok rfl rfl rfl rfl ?_ ?_
      | refine Xn [0, 1, 2, 3, 4, 5, 8, 9, 10, 11, 12, 13, 14, 15, 28, 68, 72, 83] rfl ?_
      | refine XF (c8) rfl rfl rfl rfl ?_
      | refine XF (c9) rfl rfl rfl rfl ?_
      | refine XF (d1) rfl rfl rfl rfl ?_
      | refine XF (d2) rfl rfl rfl rfl ?_
      | refine XF (d3) rfl rfl rfl rfl ?_
      | refine XF (d4) rfl rfl rfl rfl ?_
      | refine XF (wakes_fn) rfl rfl rfl rfl ?_
      | refine Xa eok rfl rfl rfl rfl rfl ?_ ?_
      | refine Xw eok rfl rfl rfl rfl ?_ ?_
      | refine Xs rfl rfl rfl ?_
      | (refine Xsplit rfl rfl (fun hc => ?_) (fun hc => ?_) <;> (fail_if_success (with_reducible first | exact absurd (hc : true = false) (by decide) | exact absurd (hc : false = true) (by decide))) <;> (try simp only [decide_eq_true_eq, decide_eq_false_iff_not, Bool.not_eq_true', Bool.not_eq_false', beq_iff_eq, beq_eq_false_iff_ne, bne_iff_ne, bne_eq_false_iff_eq, ne_eq, Int.not_lt, Int.not_le, ge_iff_le, gt_iff_lt] at hc) <;> (try (exfalso; omega))))
     | ((with_reducible refine gWd ?_); first
      | (refine Wd_isMv rfl ?_; refine Ymv eok rfl rfl (fun _ => rfl) rfl rfl ?_)
      | refine Yp eok rfl rfl (fun _ => rfl) rfl rfl ?_ ?_
      | refine Yq rfl rfl rfl rfl rfl ?_ ?_
      | refine Ys rfl rfl rfl rfl ?_
      | refine YF (c8) rfl rfl rfl rfl rfl ?_
      | refine YF (c9) rfl rfl rfl rfl rfl ?_
      | refine YF (d1) rfl rfl rfl rfl rfl ?_
      | refine YF (d2) rfl rfl rfl rfl rfl ?_
      | refine YF (d3) rfl rfl rfl rfl rfl ?_
      | refine YF (d4) rfl rfl rfl rfl rfl ?_
      | refine YF (wakes_fn) rfl rfl rfl rfl rfl ?_
      | refine Ya eok rfl rfl rfl rfl rfl rfl ?_ ?_
      | refine Yw eok rfl rfl rfl rfl rfl ?_ ?_
      | refine Yn [0, 1, 2, 3, 4, 5, 8, 9, 10, 11, 12, 13, 14, 15, 28, 68, 72, 83] [] mixed eok (by kernel_rfl) True.intro rfl ?_
      | (refine Ysplit rfl rfl (fun hc => ?_) (fun hc => ?_) <;> (fail_if_success (with_reducible first | exact absurd (hc : true = false) (by decide) | exact absurd (hc : false = true) (by decide))) <;> (try simp only [decide_eq_true_eq, decide_eq_false_iff_not, Bool.not_eq_true', Bool.not_eq_false', beq_iff_eq, beq_eq_false_iff_ne, bne_iff_ne, bne_eq_false_iff_eq, ne_eq, Int.not_lt, Int.not_le, ge_iff_le, gt_iff_lt] at hc) <;> (try (exfalso; omega))))
     | refine W_seq ?_
     | refine W_region ?_
     | refine W_any T.get ?_
     | refine W_skip ?_
     | refine W_ret ?_
     | refine W_block ?_
     | refine W_exit ?_
     | refine W_cond_t rfl ?_
     | refine W_cond_f rfl ?_
     | (refine W_cond rfl (fun hc => ?_) (fun hc => ?_) <;> (try simp only [decide_eq_true_eq, decide_eq_false_iff_not, Bool.not_eq_true', Bool.not_eq_false', beq_iff_eq, beq_eq_false_iff_ne, bne_iff_ne, bne_eq_false_iff_eq, ne_eq, Int.not_lt, Int.not_le, ge_iff_le, gt_iff_lt] at hc) <;> (try (exfalso; omega))))
    refine ⟨_, _, rfl, rfl, ?_⟩; simp [Frz_tup, Frz_ag, Frzs_cons, Frzs_nil, Frz_d, Frz_e0, Frz_sl, sln, isSl, slOk]
end Go.Proofs.Ytflikcmbbljgeaa
