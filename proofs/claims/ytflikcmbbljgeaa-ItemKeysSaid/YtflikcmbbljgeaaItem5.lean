/- Written by a program (pre.py) from the source of the same name. -/
/- Pairs: those of a key. -/
import Derived.Test.YtflikcmbbljgeaaItem4
set_option linter.unusedSimpArgs false
set_option linter.unusedVariables false
set_option linter.unnecessarySimpa false
namespace Go.Proofs.Ytflikcmbbljgeaa
open Go.Gar
set_option maxRecDepth 4000

theorem each_fn (l : List Item) : FnD Try.prog 53 [.d (itemsD l)] [] (.fn (.func 85) [] [.ptr 0 0 1]) [.c [.d (itemsD l)]] := by
  refine FnD_of_W eok Try.func53 rfl rfl (Nat.le_of_ble_eq_true rfl) ?_
  have nS := True.intro
  repeat' (first
   | ((with_reducible refine sg ?_); first
    | with_reducible rfl
    | ((with_reducible refine fitG ?_); first | kernel_rfl | rfl | (simp [fitT, fitF, nS]; done))
    | with_reducible refine andT ?_ ?_
    | with_reducible exact Nat.beq_refl _
    | with_reducible exact fitsI_u8 _
    | ((with_reducible refine decide_eq_true ?_); first | omega | (simp only [SZl, nS]; omega))
    | decide
    | (simp [SZl, slc, allOneD, D.one, allOne, AV.one, nS]; done)
    | (simp [SZl, nS]; omega))
   | ((with_reducible refine gWl ?_); first
    | (refine Wl_isMv rfl ?_; refine Xmv eok rfl rfl rfl rfl ?_)
    | refine Xq eok rfl rfl rfl rfl ?_ ?_
    | refine Xn [0, 1, 2] rfl ?_
    | refine Xa eok rfl rfl rfl rfl rfl ?_ ?_)
   | refine W_seq ?_
   | refine W_region ?_
   | refine W_skip ?_
   | refine W_ret ?_
   | refine W_block ?_
   | refine W_exit ?_
   | refine W_cond_t rfl ?_
   | refine W_cond_f rfl ?_
   | (refine W_cond rfl (fun hc => ?_) (fun hc => ?_) <;> (try simp only [decide_eq_true_eq, decide_eq_false_iff_not, Bool.not_eq_true', Bool.not_eq_false', beq_iff_eq, beq_eq_false_iff_ne, bne_iff_ne, bne_eq_false_iff_eq, ne_eq, Int.not_lt, Int.not_le, ge_iff_le, gt_iff_lt] at hc) <;> (try (exfalso; omega))))
  exact ⟨_, (TSub.cut rfl (by repeat' (first | exact True.intro | refine And.intro (by (first | rfl | ((with_reducible_and_instances refine congrArg (fun z => some (AV.d (D.i _ z))) ?_); omega) | (refine congrArg (fun z => some (AV.d (D.i _ z))) (?_ : (_ : Int) = _); omega) | (refine congrArg some ?_; simp; done))) ?_)) (by repeat' (first | exact True.intro | refine And.intro (Or.inr rfl) ?_ | refine And.intro (Or.inl ⟨rfl, rfl⟩) ?_ | refine And.intro (Or.inr (by simp)) ?_)) (by first | rfl | (simp (decide := true) [heapOk, Blk.ok, AV.oks, AV.ok, hk]; done)) rfl), Nat.zero_le _, _, _, rfl, rfl, rfl, rfl⟩
def ofK (key : List UInt8) (l : List Item) : List Item := l.filter fun x => x.key == key
theorem ofK_len (key : List UInt8) (l : List Item) : (ofK key l).length ≤ l.length := List.length_filter_le ..
theorem ofK_in {key : List UInt8} {l : List Item} {k : Nat} {x : Item} (hx : l[k]? = some x) (h : (x.key == key) = true) : ofK key (l.take (k + 1)) = ofK key (l.take k) ++ [x] := by
  unfold ofK; rw [take_succ_of hx, List.filter_append]; simp [h]
theorem ofK_out {key : List UInt8} {l : List Item} {k : Nat} {x : Item} (hx : l[k]? = some x) (h : (x.key == key) = false) : ofK key (l.take (k + 1)) = ofK key (l.take k) := by
  unfold ofK; rw [take_succ_of hx, List.filter_append]; simp [h]

theorem rOf_fn (key : List UInt8) (l : List Item) (hl : l.length ≤ 1000) : Go.Gar.Fn Try.prog 21 [.s key, itemsD l] (itemsD (ofK key l)) := by
  refine Fn_of_W eok Try.func21 rfl rfl (Nat.le_of_ble_eq_true rfl) ?_
  have nS := True.intro
  repeat' (first
   | ((with_reducible refine sg ?_); first
    | with_reducible rfl
    | ((with_reducible refine fitG ?_); first | kernel_rfl | rfl | (simp [fitT, fitF, nS]; done))
    | with_reducible refine andT ?_ ?_
    | with_reducible exact Nat.beq_refl _
    | with_reducible exact fitsI_u8 _
    | ((with_reducible refine decide_eq_true ?_); first | omega | (simp only [SZl, nS]; omega))
    | decide
    | (simp [SZl, slc, allOneD, D.one, allOne, AV.one, nS]; done)
    | (simp [SZl, nS]; omega))
   | ((with_reducible refine gWl ?_); first
    | (refine Wl_isMv rfl ?_; refine Xmv eok rfl rfl rfl rfl ?_)
    | refine Xq eok rfl rfl rfl rfl ?_ ?_
    | refine Xn [0, 1, 4, 5, 6, 10, 19] rfl ?_
    | refine Xw eok rfl rfl rfl rfl ?_ ?_)
   | refine W_seq ?_
   | refine W_region ?_
   | refine W_skip ?_
   | refine W_ret ?_
   | refine W_block ?_
   | refine W_exit ?_
   | refine W_cond_t rfl ?_
   | refine W_cond_f rfl ?_
   | (refine W_cond rfl (fun hc => ?_) (fun hc => ?_) <;> (try simp only [decide_eq_true_eq, decide_eq_false_iff_not, Bool.not_eq_true', Bool.not_eq_false', beq_iff_eq, beq_eq_false_iff_ne, bne_iff_ne, bne_eq_false_iff_eq, ne_eq, Int.not_lt, Int.not_le, ge_iff_le, gt_iff_lt] at hc) <;> (try (exfalso; omega))))
  refine W_ghost (TSub.e0own 5 (.sl 4 []) rfl rfl rfl (by simp [slOk])) (by simp) ?_
  refine W_loopI (fun k => k ≤ l.length) (fun k : Nat => ⟨[(0, .d (.s key)), (1, .d (itemsD l)), (4, .e0), (5, .sl 0 (ofK key (l.take k)).length 4), (6, .d (.i .i64 k))], [.a (itemsD (ofK key (l.take k)))], 28⟩) (fun k => l.length - k) 0 (Nat.zero_le _) ?_ (Nat.le_refl _) ?_
  · exact TSub.cut rfl (by repeat' (first | exact True.intro | refine And.intro (by (first | rfl | ((with_reducible_and_instances refine congrArg (fun z => some (AV.d (D.i _ z))) ?_); omega) | (refine congrArg (fun z => some (AV.d (D.i _ z))) (?_ : (_ : Int) = _); omega) | (refine congrArg some ?_; simp; done))) ?_)) (by repeat' (first | exact True.intro | refine And.intro (Or.inr rfl) ?_ | refine And.intro (Or.inl ⟨rfl, rfl⟩) ?_ | refine And.intro (Or.inr (by simp)) ?_)) (by first | rfl | (simp (decide := true) [heapOk, Blk.ok, AV.oks, AV.ok, hk]; done)) rfl
  intro k hk
  have hle := ofK_len key (l.take k)
  have htl : (l.take k).length ≤ k := List.length_take_le _ _
  by_cases hkl : k < l.length
  · obtain ⟨x, hx⟩ := get_of hkl
    cases hT : (x.key == key) with
    | true =>
      have hn := ofK_in hx hT
      have nS := hT
      repeat' (first
       | ((with_reducible refine sg ?_); first
        | with_reducible rfl
        | ((with_reducible refine fitG ?_); first | kernel_rfl | rfl | (simp [fitT, fitF, nS]; done))
        | with_reducible refine andT ?_ ?_
        | with_reducible exact Nat.beq_refl _
        | with_reducible exact fitsI_u8 _
        | ((with_reducible refine decide_eq_true ?_); first | omega | (simp only [SZl, nS]; omega))
        | decide
        | (simp [SZl, slc, allOneD, D.one, allOne, AV.one, nS]; done)
        | (simp [SZl, nS]; omega))
       | ((with_reducible refine gWl ?_); first
        | (refine Wl_isMv rfl ?_; refine Xmv eok rfl rfl rfl rfl ?_)
        | (refine Wl_isIx rfl ?_; refine Xix eok rfl rfl rfl rfl rfl (Int.natCast_nonneg _) (ix_map hx) ?_)
        | refine Xq eok rfl rfl rfl rfl ?_ ?_
        | refine Xn [0, 1, 4, 5, 6, 10, 19] rfl ?_
        | refine Xw eok rfl rfl rfl rfl ?_ ?_)
       | refine W_seq ?_
       | refine W_region ?_
       | refine W_skip ?_
       | refine W_ret ?_
       | refine W_block ?_
       | refine W_exit ?_
       | refine W_cond_t rfl ?_
       | refine W_cond_f rfl ?_
       | (refine W_cond rfl (fun hc => ?_) (fun hc => ?_) <;> (try simp only [decide_eq_true_eq, decide_eq_false_iff_not, Bool.not_eq_true', Bool.not_eq_false', beq_iff_eq, beq_eq_false_iff_ne, bne_iff_ne, bne_eq_false_iff_eq, ne_eq, Int.not_lt, Int.not_le, ge_iff_le, gt_iff_lt] at hc) <;> (try (exfalso; omega))))
      refine ⟨k + 1, hkl, by omega, Nat.le_refl _, ?_⟩
      exact TSub.cut rfl (by repeat' (first | exact True.intro | refine And.intro (by (first | rfl | ((with_reducible_and_instances refine congrArg (fun z => some (AV.d (D.i _ z))) ?_); omega) | (refine congrArg (fun z => some (AV.d (D.i _ z))) (?_ : (_ : Int) = _); omega) | (refine congrArg some ?_; simp only [hn, itemsD, List.map_append, List.map_cons, List.map_nil, Item.cells, List.length_append, List.length_cons, List.length_nil]; done) | (refine congrArg some ?_; simp [hn, itemsD, List.map_append, List.map_cons, List.map_nil, Item.cells, List.length_append, List.length_cons, List.length_nil]; done))) ?_)) (by repeat' (first | exact True.intro | refine And.intro (Or.inr rfl) ?_ | refine And.intro (Or.inl ⟨rfl, rfl⟩) ?_ | refine And.intro (Or.inr (by simp only [hn, itemsD, List.map_append, List.map_cons, List.map_nil, Item.cells, List.length_append, List.length_cons, List.length_nil])) ?_ | refine And.intro (Or.inr (by simp [hn, itemsD, List.map_append, List.map_cons, List.map_nil, Item.cells, List.length_append, List.length_cons, List.length_nil])) ?_)) (by first | rfl | (simp (decide := true) [heapOk, Blk.ok, AV.oks, AV.ok, hk]; done)) rfl
    | false =>
      have hn := ofK_out hx hT
      have nS := hT
      repeat' (first
       | ((with_reducible refine sg ?_); first
        | with_reducible rfl
        | ((with_reducible refine fitG ?_); first | kernel_rfl | rfl | (simp [fitT, fitF, nS]; done))
        | with_reducible refine andT ?_ ?_
        | with_reducible exact Nat.beq_refl _
        | with_reducible exact fitsI_u8 _
        | ((with_reducible refine decide_eq_true ?_); first | omega | (simp only [SZl, nS]; omega))
        | decide
        | (simp [SZl, slc, allOneD, D.one, allOne, AV.one, nS]; done)
        | (simp [SZl, nS]; omega))
       | ((with_reducible refine gWl ?_); first
        | (refine Wl_isMv rfl ?_; refine Xmv eok rfl rfl rfl rfl ?_)
        | (refine Wl_isIx rfl ?_; refine Xix eok rfl rfl rfl rfl rfl (Int.natCast_nonneg _) (ix_map hx) ?_)
        | refine Xq eok rfl rfl rfl rfl ?_ ?_
        | refine Xn [0, 1, 4, 5, 6, 10, 19] rfl ?_
        | refine Xw eok rfl rfl rfl rfl ?_ ?_)
       | refine W_seq ?_
       | refine W_region ?_
       | refine W_skip ?_
       | refine W_ret ?_
       | refine W_block ?_
       | refine W_exit ?_
       | refine W_cond_t rfl ?_
       | refine W_cond_f rfl ?_
       | (refine W_cond rfl (fun hc => ?_) (fun hc => ?_) <;> (try simp only [decide_eq_true_eq, decide_eq_false_iff_not, Bool.not_eq_true', Bool.not_eq_false', beq_iff_eq, beq_eq_false_iff_ne, bne_iff_ne, bne_eq_false_iff_eq, ne_eq, Int.not_lt, Int.not_le, ge_iff_le, gt_iff_lt] at hc) <;> (try (exfalso; omega))))
      refine ⟨k + 1, hkl, by omega, Nat.le_refl _, ?_⟩
      exact TSub.cut rfl (by repeat' (first | exact True.intro | refine And.intro (by (first | rfl | ((with_reducible_and_instances refine congrArg (fun z => some (AV.d (D.i _ z))) ?_); omega) | (refine congrArg (fun z => some (AV.d (D.i _ z))) (?_ : (_ : Int) = _); omega) | (refine congrArg some ?_; simp only [hn]; done) | (refine congrArg some ?_; simp [hn]; done))) ?_)) (by repeat' (first | exact True.intro | refine And.intro (Or.inr rfl) ?_ | refine And.intro (Or.inl ⟨rfl, rfl⟩) ?_ | refine And.intro (Or.inr (by simp only [hn])) ?_ | refine And.intro (Or.inr (by simp [hn])) ?_)) (by first | rfl | (simp (decide := true) [heapOk, Blk.ok, AV.oks, AV.ok, hk]; done)) rfl
  · have e : k = l.length := by omega
    subst e
    rw [List.take_length]
    have nS := True.intro
    repeat' (first
     | ((with_reducible refine sg ?_); first
      | with_reducible rfl
      | ((with_reducible refine fitG ?_); first | kernel_rfl | rfl | (simp [fitT, fitF, nS]; done))
      | with_reducible refine andT ?_ ?_
      | with_reducible exact Nat.beq_refl _
      | with_reducible exact fitsI_u8 _
      | ((with_reducible refine decide_eq_true ?_); first | omega | (simp only [SZl, nS]; omega))
      | decide
      | (simp [SZl, slc, allOneD, D.one, allOne, AV.one, nS]; done)
      | (simp [SZl, nS]; omega))
     | ((with_reducible refine gWl ?_); first
      | (refine Wl_isMv rfl ?_; refine Xmv eok rfl rfl rfl rfl ?_)
      | refine Xq eok rfl rfl rfl rfl ?_ ?_
      | refine Xn [0, 1, 4, 5, 6, 10, 19] rfl ?_
      | refine Xw eok rfl rfl rfl rfl ?_ ?_)
     | refine W_seq ?_
     | refine W_region ?_
     | refine W_skip ?_
     | refine W_ret ?_
     | refine W_block ?_
     | refine W_exit ?_
     | refine W_cond_t rfl ?_
     | refine W_cond_f rfl ?_
     | (refine W_cond rfl (fun hc => ?_) (fun hc => ?_) <;> (try simp only [decide_eq_true_eq, decide_eq_false_iff_not, Bool.not_eq_true', Bool.not_eq_false', beq_iff_eq, beq_eq_false_iff_ne, bne_iff_ne, bne_eq_false_iff_eq, ne_eq, Int.not_lt, Int.not_le, ge_iff_le, gt_iff_lt] at hc) <;> (try (exfalso; omega))))
    refine ⟨_, _, rfl, rfl, ?_⟩; simp [Frz_tup, Frz_ag, Frzs_cons, Frzs_nil, Frz_d, Frz_e0, Frz_sl, sln, isSl, slOk]

set_option maxHeartbeats 4000000 in
theorem Of_own (key : List UInt8) (l : List Item) (hl : l.length ≤ 1000) :
    FnD Try.prog 20 [.d (.s key), .d (itemsD l)] [] (.sl 3 (ofK key l).length 4) [.gone, .gone, .gone, .a (itemsD (ofK key l))] := by
  refine FnD_of_W eok Try.func20 rfl rfl (Nat.le_of_ble_eq_true rfl) ?_
  have nS := True.intro
  repeat' (first
   | ((with_reducible refine sg ?_); first
    | with_reducible rfl
    | ((with_reducible refine fitG ?_); first | kernel_rfl | rfl | (simp [fitT, fitF, nS]; done))
    | with_reducible refine andT ?_ ?_
    | with_reducible exact Nat.beq_refl _
    | with_reducible exact fitsI_u8 _
    | ((with_reducible refine decide_eq_true ?_); first | omega | (simp only [SZl, nS]; omega))
    | decide
    | (simp [SZl, slc, allOneD, D.one, allOne, AV.one, nS]; done)
    | (simp [SZl, nS]; omega))
   | ((with_reducible refine gWl ?_); first
    | (refine Wl_isMv rfl ?_; refine Xmv eok rfl rfl rfl rfl ?_)
    | refine Xq eok rfl rfl rfl rfl ?_ ?_
    | refine Xn [0, 1, 2, 4, 5, 6, 8, 9, 13] rfl ?_
    | refine XD [] (each_fn l) rfl rfl rfl (by repeat' (first | exact True.intro | refine And.intro rfl ?_)) rfl rfl rfl rfl ?_
    | refine Xa eok rfl rfl rfl rfl rfl ?_ ?_
    | refine Xw eok rfl rfl rfl rfl ?_ ?_)
   | refine W_seq ?_
   | refine W_region ?_
   | refine W_skip ?_
   | refine W_ret ?_
   | refine W_block ?_
   | refine W_exit ?_
   | refine W_cond_t rfl ?_
   | refine W_cond_f rfl ?_
   | (refine W_cond rfl (fun hc => ?_) (fun hc => ?_) <;> (try simp only [decide_eq_true_eq, decide_eq_false_iff_not, Bool.not_eq_true', Bool.not_eq_false', beq_iff_eq, beq_eq_false_iff_ne, bne_iff_ne, bne_eq_false_iff_eq, ne_eq, Int.not_lt, Int.not_le, ge_iff_le, gt_iff_lt] at hc) <;> (try (exfalso; omega))))
  refine W_ghost (TSub.e0ownc 1 0 (.sl 4 []) rfl rfl rfl rfl (by simp [slOk])) (by simp) ?_
  refine W_rangeX (K := fun r _ H' => H' = [.c [.d (.s key)], .c [.sl 3 (ofK key l).length 4], .c [.d (itemsD l)], .a (itemsD (ofK key l)), .lp r]) rfl (by first | (simp only [NSl, NHl, Nat.reduceAdd, Int.reduceAdd, Int.reduceSub, Int.reduceMul, Int.reduceToNat]; done) | (simp only [NSl, NHl, Nat.reduceAdd, Int.reduceAdd, Int.reduceSub, Int.reduceMul, Int.reduceToNat]; rfl) | rfl) (by first | (simp only [NSl, NHl, Nat.reduceAdd, Int.reduceAdd, Int.reduceSub, Int.reduceMul, Int.reduceToNat]; done) | (simp only [NSl, NHl, Nat.reduceAdd, Int.reduceAdd, Int.reduceSub, Int.reduceMul, Int.reduceToNat]; rfl) | rfl) (fun r => (by first | (simp only [NSl, NHl, Nat.reduceAdd, Int.reduceAdd, Int.reduceSub, Int.reduceMul, Int.reduceToNat]; done) | (simp only [NSl, NHl, Nat.reduceAdd, Int.reduceAdd, Int.reduceSub, Int.reduceMul, Int.reduceToNat]; rfl) | rfl)) ?_ ?_
  · intro r hr
    refine FnT_of_G eok Try.func85 rfl rfl (Nat.le_of_ble_eq_true rfl) ?_
    have nS := True.intro
    repeat' (first
     | ((with_reducible refine sg ?_); first
      | with_reducible rfl
      | ((with_reducible refine fitG ?_); first | kernel_rfl | rfl | (simp [fitT, fitF, nS]; done))
      | with_reducible refine andT ?_ ?_
      | with_reducible exact Nat.beq_refl _
      | with_reducible exact fitsI_u8 _
      | ((with_reducible refine decide_eq_true ?_); first | omega | (simp only [SZl, nS]; omega))
      | decide
      | (simp [SZl, slc, allOneD, D.one, allOne, AV.one, nS]; done)
      | (simp [SZl, nS]; omega))
     | ((with_reducible refine gWl ?_); first
      | (refine Wl_isMv rfl ?_; refine Xmv eok rfl rfl rfl rfl ?_)
      | refine Xq eok rfl rfl rfl rfl ?_ ?_
      | refine Xn [0, 1, 4, 5, 6, 7, 8, 14] rfl ?_
      | refine Xa eok rfl rfl rfl rfl rfl ?_ ?_
      | refine Xw eok rfl rfl rfl rfl ?_ ?_)
     | refine W_seq ?_
     | refine W_region ?_
     | refine W_skip ?_
     | refine W_ret ?_
     | refine W_block ?_
     | refine W_exit ?_
     | refine W_cond_t rfl ?_
     | refine W_cond_f rfl ?_
     | (refine W_cond rfl (fun hc => ?_) (fun hc => ?_) <;> (try simp only [decide_eq_true_eq, decide_eq_false_iff_not, Bool.not_eq_true', Bool.not_eq_false', beq_iff_eq, beq_eq_false_iff_ne, bne_iff_ne, bne_eq_false_iff_eq, ne_eq, Int.not_lt, Int.not_le, ge_iff_le, gt_iff_lt] at hc) <;> (try (exfalso; omega))))
    have hk := hr.ok (k := 4) rfl
    refine W_loopI (fun k => k ≤ l.length) (fun k : Nat => ⟨[(0, .yl 4), (1, .ptr 2 0 1), (5, .d (itemsD l)), (6, .d (.i .i64 l.length)), (7, .d (.i .i64 k))], [.c [.d (.s key)], .c [.sl 3 (ofK key (l.take k)).length 4], .c [.d (itemsD l)], .a (itemsD (ofK key (l.take k))), .lp r], 16⟩) (fun k => l.length - k) 0 (Nat.zero_le _) ?_ (Nat.le_refl _) ?_
    · exact TSub.cut rfl (by repeat' (first | exact True.intro | refine And.intro (by (first | rfl | ((with_reducible_and_instances refine congrArg (fun z => some (AV.d (D.i _ z))) ?_); omega) | (refine congrArg (fun z => some (AV.d (D.i _ z))) (?_ : (_ : Int) = _); omega) | (refine congrArg some ?_; simp only [List.take_zero, ofK, List.filter_nil]; done) | (refine congrArg some ?_; simp [List.take_zero, ofK, List.filter_nil]; done))) ?_)) (by repeat' (first | exact True.intro | refine And.intro (Or.inr rfl) ?_ | refine And.intro (Or.inl ⟨rfl, rfl⟩) ?_ | refine And.intro (Or.inr (by simp only [List.take_zero, ofK, List.filter_nil])) ?_ | refine And.intro (Or.inr (by simp [List.take_zero, ofK, List.filter_nil])) ?_)) (by first | rfl | (simp (decide := true) [heapOk, Blk.ok, AV.oks, AV.ok, hk]; done)) rfl
    intro k hkk
    have hle := ofK_len key (l.take k)
    have htl : (l.take k).length ≤ k := List.length_take_le _ _
    by_cases hkl : k < l.length
    · obtain ⟨x, hx⟩ := get_of hkl
      cases hT : (x.key == key) with
      | true =>
        have hn := ofK_in hx hT
        have nS := True.intro
        repeat' (first
         | ((with_reducible refine sg ?_); first
          | with_reducible rfl
          | ((with_reducible refine fitG ?_); first | kernel_rfl | rfl | (simp [fitT, fitF, nS]; done))
          | with_reducible refine andT ?_ ?_
          | with_reducible exact Nat.beq_refl _
          | with_reducible exact fitsI_u8 _
          | ((with_reducible refine decide_eq_true ?_); first | omega | (simp only [SZl, nS]; omega))
          | decide
          | (simp [SZl, slc, allOneD, D.one, allOne, AV.one, nS]; done)
          | (simp [SZl, nS]; omega))
         | ((with_reducible refine gWl ?_); first
          | (refine Wl_isMv rfl ?_; refine Xmv eok rfl rfl rfl rfl ?_)
          | (refine Wl_isIx rfl ?_; refine Xix eok rfl rfl rfl rfl rfl (Int.natCast_nonneg _) (ix_map hx) ?_)
          | refine Xq eok rfl rfl rfl rfl ?_ ?_
          | refine Xn [0, 1, 4, 5, 6, 7, 8, 14] rfl ?_
          | refine Xa eok rfl rfl rfl rfl rfl ?_ ?_
          | refine Xw eok rfl rfl rfl rfl ?_ ?_)
         | refine W_seq ?_
         | refine W_region ?_
         | refine W_skip ?_
         | refine W_ret ?_
         | refine W_block ?_
         | refine W_exit ?_
         | refine W_cond_t rfl ?_
         | refine W_cond_f rfl ?_
         | (refine W_cond rfl (fun hc => ?_) (fun hc => ?_) <;> (try simp only [decide_eq_true_eq, decide_eq_false_iff_not, Bool.not_eq_true', Bool.not_eq_false', beq_iff_eq, beq_eq_false_iff_ne, bne_iff_ne, bne_eq_false_iff_eq, ne_eq, Int.not_lt, Int.not_le, ge_iff_le, gt_iff_lt] at hc) <;> (try (exfalso; omega))))
        refine Xy (x := .d (.b true)) (H' := [.c [.d (.s key)], .c [.sl 3 (ofK key (l.take (k + 1))).length 4], .c [.d (itemsD l)], .a (itemsD (ofK key (l.take (k + 1)))), .lp r, .c [.d (.s x.key), .d (.i .i64 x.value), .d (.i .i64 x.version), .d (.b x.gone)], .c [.d (.s x.key), .d (.i .i64 x.value), .d (.i .i64 x.version), .d (.b x.gone)]]) (YT_of_L hr rfl rfl rfl ?_) rfl rfl rfl rfl rfl ?_
        · have nS := True.intro
          repeat' (first
           | ((with_reducible refine sg ?_); first
            | with_reducible rfl
            | ((with_reducible refine fitG ?_); first | kernel_rfl | rfl | (simp [fitT, fitF, nS]; done))
            | with_reducible refine andT ?_ ?_
            | with_reducible exact Nat.beq_refl _
            | with_reducible exact fitsI_u8 _
            | ((with_reducible refine decide_eq_true ?_); first | omega | (simp only [SZl, nS]; omega))
            | decide
            | (simp [SZl, slc, allOneD, D.one, allOne, AV.one, nS]; done)
            | (simp [SZl, nS]; omega))
           | ((with_reducible refine gWl ?_); first
            | (refine Wl_isMv rfl ?_; refine Xmv eok rfl rfl rfl rfl ?_)
            | refine Xq eok rfl rfl rfl rfl ?_ ?_
            | refine Xn [0, 1, 2, 4, 5, 6, 8, 9, 13] rfl ?_
            | refine Xa eok rfl rfl rfl rfl rfl ?_ ?_
            | refine Xw eok rfl rfl rfl rfl ?_ ?_)
           | refine W_seq ?_
           | refine W_region ?_
           | refine W_skip ?_
           | refine W_ret ?_
           | refine W_block ?_
           | refine W_exit ?_
           | refine W_cond_t rfl ?_
           | refine W_cond_f rfl ?_
           | (refine W_cond rfl (fun hc => ?_) (fun hc => ?_) <;> (try simp only [decide_eq_true_eq, decide_eq_false_iff_not, Bool.not_eq_true', Bool.not_eq_false', beq_iff_eq, beq_eq_false_iff_ne, bne_iff_ne, bne_eq_false_iff_eq, ne_eq, Int.not_lt, Int.not_le, ge_iff_le, gt_iff_lt] at hc) <;> (try (exfalso; omega))))
          refine ⟨rfl, W_hp (by first | (simp only [NSl, NHl, Nat.reduceAdd, Int.reduceAdd, Int.reduceSub, Int.reduceMul, Int.reduceToNat]; done) | (simp only [NSl, NHl, Nat.reduceAdd, Int.reduceAdd, Int.reduceSub, Int.reduceMul, Int.reduceToNat]; rfl) | rfl) ?_⟩
          have nS := hT
          repeat' (first
           | ((with_reducible refine sg ?_); first
            | with_reducible rfl
            | ((with_reducible refine fitG ?_); first | kernel_rfl | rfl | (simp [fitT, fitF, nS]; done))
            | with_reducible refine andT ?_ ?_
            | with_reducible exact Nat.beq_refl _
            | with_reducible exact fitsI_u8 _
            | ((with_reducible refine decide_eq_true ?_); first | omega | (simp only [SZl, nS]; omega))
            | decide
            | (simp [SZl, slc, allOneD, D.one, allOne, AV.one, nS]; done)
            | (simp [SZl, nS]; omega))
           | ((with_reducible refine gWl ?_); first
            | (refine Wl_isMv rfl ?_; refine Xmv eok rfl rfl rfl rfl ?_)
            | refine Xq eok rfl rfl rfl rfl ?_ ?_
            | refine Xn [0, 1, 2, 4, 5, 6, 8, 9, 13] rfl ?_
            | refine Xa eok rfl rfl rfl rfl rfl ?_ ?_
            | refine Xw eok rfl rfl rfl rfl ?_ ?_)
           | refine W_seq ?_
           | refine W_region ?_
           | refine W_skip ?_
           | refine W_ret ?_
           | refine W_block ?_
           | refine W_exit ?_
           | refine W_cond_t rfl ?_
           | refine W_cond_f rfl ?_
           | (refine W_cond rfl (fun hc => ?_) (fun hc => ?_) <;> (try simp only [decide_eq_true_eq, decide_eq_false_iff_not, Bool.not_eq_true', Bool.not_eq_false', beq_iff_eq, beq_eq_false_iff_ne, bne_iff_ne, bne_eq_false_iff_eq, ne_eq, Int.not_lt, Int.not_le, ge_iff_le, gt_iff_lt] at hc) <;> (try (exfalso; omega))))
          refine ⟨_, TSub.refl _, Nat.le_succ _, rfl, rfl, ?_⟩
          simp only [hn, itemsD, List.map_append, List.map_cons, List.map_nil, Item.cells, List.length_append, List.length_map, List.length_cons, List.length_nil, List.set_cons_succ, List.set_cons_zero]
        · have nS := True.intro
          repeat' (first
           | ((with_reducible refine sg ?_); first
            | with_reducible rfl
            | ((with_reducible refine fitG ?_); first | kernel_rfl | rfl | (simp [fitT, fitF, nS]; done))
            | with_reducible refine andT ?_ ?_
            | with_reducible exact Nat.beq_refl _
            | with_reducible exact fitsI_u8 _
            | ((with_reducible refine decide_eq_true ?_); first | omega | (simp only [SZl, nS]; omega))
            | decide
            | (simp [SZl, slc, allOneD, D.one, allOne, AV.one, nS]; done)
            | (simp [SZl, nS]; omega))
           | ((with_reducible refine gWl ?_); first
            | (refine Wl_isMv rfl ?_; refine Xmv eok rfl rfl rfl rfl ?_)
            | refine Xq eok rfl rfl rfl rfl ?_ ?_
            | refine Xn [0, 1, 4, 5, 6, 7, 8, 14] rfl ?_
            | refine Xa eok rfl rfl rfl rfl rfl ?_ ?_
            | refine Xw eok rfl rfl rfl rfl ?_ ?_)
           | refine W_seq ?_
           | refine W_region ?_
           | refine W_skip ?_
           | refine W_ret ?_
           | refine W_block ?_
           | refine W_exit ?_
           | refine W_cond_t rfl ?_
           | refine W_cond_f rfl ?_
           | (refine W_cond rfl (fun hc => ?_) (fun hc => ?_) <;> (try simp only [decide_eq_true_eq, decide_eq_false_iff_not, Bool.not_eq_true', Bool.not_eq_false', beq_iff_eq, beq_eq_false_iff_ne, bne_iff_ne, bne_eq_false_iff_eq, ne_eq, Int.not_lt, Int.not_le, ge_iff_le, gt_iff_lt] at hc) <;> (try (exfalso; omega))))
          refine ⟨k + 1, hkl, by omega, Nat.le_refl _, ?_⟩
          exact TSub.cut rfl (by repeat' (first | exact True.intro | refine And.intro (by (first | rfl | ((with_reducible_and_instances refine congrArg (fun z => some (AV.d (D.i _ z))) ?_); omega) | (refine congrArg (fun z => some (AV.d (D.i _ z))) (?_ : (_ : Int) = _); omega) | (refine congrArg some ?_; simp only [hn]; done) | (refine congrArg some ?_; simp [hn]; done))) ?_)) (by repeat' (first | exact True.intro | refine And.intro (Or.inr rfl) ?_ | refine And.intro (Or.inl ⟨rfl, rfl⟩) ?_ | refine And.intro (Or.inr (by simp only [hn])) ?_ | refine And.intro (Or.inr (by simp [hn])) ?_)) (by first | rfl | (simp (decide := true) [heapOk, Blk.ok, AV.oks, AV.ok, hk]; done)) rfl
      | false =>
        have hn := ofK_out hx hT
        have nS := True.intro
        repeat' (first
         | ((with_reducible refine sg ?_); first
          | with_reducible rfl
          | ((with_reducible refine fitG ?_); first | kernel_rfl | rfl | (simp [fitT, fitF, nS]; done))
          | with_reducible refine andT ?_ ?_
          | with_reducible exact Nat.beq_refl _
          | with_reducible exact fitsI_u8 _
          | ((with_reducible refine decide_eq_true ?_); first | omega | (simp only [SZl, nS]; omega))
          | decide
          | (simp [SZl, slc, allOneD, D.one, allOne, AV.one, nS]; done)
          | (simp [SZl, nS]; omega))
         | ((with_reducible refine gWl ?_); first
          | (refine Wl_isMv rfl ?_; refine Xmv eok rfl rfl rfl rfl ?_)
          | (refine Wl_isIx rfl ?_; refine Xix eok rfl rfl rfl rfl rfl (Int.natCast_nonneg _) (ix_map hx) ?_)
          | refine Xq eok rfl rfl rfl rfl ?_ ?_
          | refine Xn [0, 1, 4, 5, 6, 7, 8, 14] rfl ?_
          | refine Xa eok rfl rfl rfl rfl rfl ?_ ?_
          | refine Xw eok rfl rfl rfl rfl ?_ ?_)
         | refine W_seq ?_
         | refine W_region ?_
         | refine W_skip ?_
         | refine W_ret ?_
         | refine W_block ?_
         | refine W_exit ?_
         | refine W_cond_t rfl ?_
         | refine W_cond_f rfl ?_
         | (refine W_cond rfl (fun hc => ?_) (fun hc => ?_) <;> (try simp only [decide_eq_true_eq, decide_eq_false_iff_not, Bool.not_eq_true', Bool.not_eq_false', beq_iff_eq, beq_eq_false_iff_ne, bne_iff_ne, bne_eq_false_iff_eq, ne_eq, Int.not_lt, Int.not_le, ge_iff_le, gt_iff_lt] at hc) <;> (try (exfalso; omega))))
        refine Xy (x := .d (.b true)) (H' := [.c [.d (.s key)], .c [.sl 3 (ofK key (l.take (k + 1))).length 4], .c [.d (itemsD l)], .a (itemsD (ofK key (l.take (k + 1)))), .lp r, .c [.d (.s x.key), .d (.i .i64 x.value), .d (.i .i64 x.version), .d (.b x.gone)], .c [.d (.s x.key), .d (.i .i64 x.value), .d (.i .i64 x.version), .d (.b x.gone)]]) (YT_of_L hr rfl rfl rfl ?_) rfl rfl rfl rfl rfl ?_
        · have nS := True.intro
          repeat' (first
           | ((with_reducible refine sg ?_); first
            | with_reducible rfl
            | ((with_reducible refine fitG ?_); first | kernel_rfl | rfl | (simp [fitT, fitF, nS]; done))
            | with_reducible refine andT ?_ ?_
            | with_reducible exact Nat.beq_refl _
            | with_reducible exact fitsI_u8 _
            | ((with_reducible refine decide_eq_true ?_); first | omega | (simp only [SZl, nS]; omega))
            | decide
            | (simp [SZl, slc, allOneD, D.one, allOne, AV.one, nS]; done)
            | (simp [SZl, nS]; omega))
           | ((with_reducible refine gWl ?_); first
            | (refine Wl_isMv rfl ?_; refine Xmv eok rfl rfl rfl rfl ?_)
            | refine Xq eok rfl rfl rfl rfl ?_ ?_
            | refine Xn [0, 1, 2, 4, 5, 6, 8, 9, 13] rfl ?_
            | refine Xa eok rfl rfl rfl rfl rfl ?_ ?_
            | refine Xw eok rfl rfl rfl rfl ?_ ?_)
           | refine W_seq ?_
           | refine W_region ?_
           | refine W_skip ?_
           | refine W_ret ?_
           | refine W_block ?_
           | refine W_exit ?_
           | refine W_cond_t rfl ?_
           | refine W_cond_f rfl ?_
           | (refine W_cond rfl (fun hc => ?_) (fun hc => ?_) <;> (try simp only [decide_eq_true_eq, decide_eq_false_iff_not, Bool.not_eq_true', Bool.not_eq_false', beq_iff_eq, beq_eq_false_iff_ne, bne_iff_ne, bne_eq_false_iff_eq, ne_eq, Int.not_lt, Int.not_le, ge_iff_le, gt_iff_lt] at hc) <;> (try (exfalso; omega))))
          refine ⟨rfl, W_hp (by first | (simp only [NSl, NHl, Nat.reduceAdd, Int.reduceAdd, Int.reduceSub, Int.reduceMul, Int.reduceToNat]; done) | (simp only [NSl, NHl, Nat.reduceAdd, Int.reduceAdd, Int.reduceSub, Int.reduceMul, Int.reduceToNat]; rfl) | rfl) ?_⟩
          have nS := hT
          repeat' (first
           | ((with_reducible refine sg ?_); first
            | with_reducible rfl
            | ((with_reducible refine fitG ?_); first | kernel_rfl | rfl | (simp [fitT, fitF, nS]; done))
            | with_reducible refine andT ?_ ?_
            | with_reducible exact Nat.beq_refl _
            | with_reducible exact fitsI_u8 _
            | ((with_reducible refine decide_eq_true ?_); first | omega | (simp only [SZl, nS]; omega))
            | decide
            | (simp [SZl, slc, allOneD, D.one, allOne, AV.one, nS]; done)
            | (simp [SZl, nS]; omega))
           | ((with_reducible refine gWl ?_); first
            | (refine Wl_isMv rfl ?_; refine Xmv eok rfl rfl rfl rfl ?_)
            | refine Xq eok rfl rfl rfl rfl ?_ ?_
            | refine Xn [0, 1, 2, 4, 5, 6, 8, 9, 13] rfl ?_
            | refine Xa eok rfl rfl rfl rfl rfl ?_ ?_
            | refine Xw eok rfl rfl rfl rfl ?_ ?_)
           | refine W_seq ?_
           | refine W_region ?_
           | refine W_skip ?_
           | refine W_ret ?_
           | refine W_block ?_
           | refine W_exit ?_
           | refine W_cond_t rfl ?_
           | refine W_cond_f rfl ?_
           | (refine W_cond rfl (fun hc => ?_) (fun hc => ?_) <;> (try simp only [decide_eq_true_eq, decide_eq_false_iff_not, Bool.not_eq_true', Bool.not_eq_false', beq_iff_eq, beq_eq_false_iff_ne, bne_iff_ne, bne_eq_false_iff_eq, ne_eq, Int.not_lt, Int.not_le, ge_iff_le, gt_iff_lt] at hc) <;> (try (exfalso; omega))))
          refine ⟨_, TSub.refl _, Nat.le_succ _, rfl, rfl, ?_⟩
          simp only [hn, List.set_cons_succ, List.set_cons_zero]
        · have nS := True.intro
          repeat' (first
           | ((with_reducible refine sg ?_); first
            | with_reducible rfl
            | ((with_reducible refine fitG ?_); first | kernel_rfl | rfl | (simp [fitT, fitF, nS]; done))
            | with_reducible refine andT ?_ ?_
            | with_reducible exact Nat.beq_refl _
            | with_reducible exact fitsI_u8 _
            | ((with_reducible refine decide_eq_true ?_); first | omega | (simp only [SZl, nS]; omega))
            | decide
            | (simp [SZl, slc, allOneD, D.one, allOne, AV.one, nS]; done)
            | (simp [SZl, nS]; omega))
           | ((with_reducible refine gWl ?_); first
            | (refine Wl_isMv rfl ?_; refine Xmv eok rfl rfl rfl rfl ?_)
            | refine Xq eok rfl rfl rfl rfl ?_ ?_
            | refine Xn [0, 1, 4, 5, 6, 7, 8, 14] rfl ?_
            | refine Xa eok rfl rfl rfl rfl rfl ?_ ?_
            | refine Xw eok rfl rfl rfl rfl ?_ ?_)
           | refine W_seq ?_
           | refine W_region ?_
           | refine W_skip ?_
           | refine W_ret ?_
           | refine W_block ?_
           | refine W_exit ?_
           | refine W_cond_t rfl ?_
           | refine W_cond_f rfl ?_
           | (refine W_cond rfl (fun hc => ?_) (fun hc => ?_) <;> (try simp only [decide_eq_true_eq, decide_eq_false_iff_not, Bool.not_eq_true', Bool.not_eq_false', beq_iff_eq, beq_eq_false_iff_ne, bne_iff_ne, bne_eq_false_iff_eq, ne_eq, Int.not_lt, Int.not_le, ge_iff_le, gt_iff_lt] at hc) <;> (try (exfalso; omega))))
          refine ⟨k + 1, hkl, by omega, Nat.le_refl _, ?_⟩
          exact TSub.cut rfl (by repeat' (first | exact True.intro | refine And.intro (by (first | rfl | ((with_reducible_and_instances refine congrArg (fun z => some (AV.d (D.i _ z))) ?_); omega) | (refine congrArg (fun z => some (AV.d (D.i _ z))) (?_ : (_ : Int) = _); omega) | (refine congrArg some ?_; simp only [hn]; done) | (refine congrArg some ?_; simp [hn]; done))) ?_)) (by repeat' (first | exact True.intro | refine And.intro (Or.inr rfl) ?_ | refine And.intro (Or.inl ⟨rfl, rfl⟩) ?_ | refine And.intro (Or.inr (by simp only [hn])) ?_ | refine And.intro (Or.inr (by simp [hn])) ?_)) (by first | rfl | (simp (decide := true) [heapOk, Blk.ok, AV.oks, AV.ok, hk]; done)) rfl
    · have e : k = l.length := by omega
      subst e
      have nS := True.intro
      repeat' (first
       | ((with_reducible refine sg ?_); first
        | with_reducible rfl
        | ((with_reducible refine fitG ?_); first | kernel_rfl | rfl | (simp [fitT, fitF, nS]; done))
        | with_reducible refine andT ?_ ?_
        | with_reducible exact Nat.beq_refl _
        | with_reducible exact fitsI_u8 _
        | ((with_reducible refine decide_eq_true ?_); first | omega | (simp only [SZl, nS]; omega))
        | decide
        | (simp [SZl, slc, allOneD, D.one, allOne, AV.one, nS]; done)
        | (simp [SZl, nS]; omega))
       | ((with_reducible refine gWl ?_); first
        | (refine Wl_isMv rfl ?_; refine Xmv eok rfl rfl rfl rfl ?_)
        | refine Xq eok rfl rfl rfl rfl ?_ ?_
        | refine Xn [0, 1, 4, 5, 6, 7, 8, 14] rfl ?_
        | refine Xa eok rfl rfl rfl rfl rfl ?_ ?_
        | refine Xw eok rfl rfl rfl rfl ?_ ?_)
       | refine W_seq ?_
       | refine W_region ?_
       | refine W_skip ?_
       | refine W_ret ?_
       | refine W_block ?_
       | refine W_exit ?_
       | refine W_cond_t rfl ?_
       | refine W_cond_f rfl ?_
       | (refine W_cond rfl (fun hc => ?_) (fun hc => ?_) <;> (try simp only [decide_eq_true_eq, decide_eq_false_iff_not, Bool.not_eq_true', Bool.not_eq_false', beq_iff_eq, beq_eq_false_iff_ne, bne_iff_ne, bne_eq_false_iff_eq, ne_eq, Int.not_lt, Int.not_le, ge_iff_le, gt_iff_lt] at hc) <;> (try (exfalso; omega))))
      refine ⟨_, TSub.refl _, Nat.le_refl _, _, _, rfl, rfl, ?_⟩
      simp only [List.take_length]
  · rintro r hr x H' rfl
    refine .inl ⟨rfl, ?_⟩
    have nS := True.intro
    repeat' (first
     | ((with_reducible refine sg ?_); first
      | with_reducible rfl
      | ((with_reducible refine fitG ?_); first | kernel_rfl | rfl | (simp [fitT, fitF, nS]; done))
      | with_reducible refine andT ?_ ?_
      | with_reducible exact Nat.beq_refl _
      | with_reducible exact fitsI_u8 _
      | ((with_reducible refine decide_eq_true ?_); first | omega | (simp only [SZl, nS]; omega))
      | decide
      | (simp [SZl, slc, allOneD, D.one, allOne, AV.one, nS]; done)
      | (simp [SZl, nS]; omega))
     | ((with_reducible refine gWl ?_); first
      | (refine Wl_isMv rfl ?_; refine Xmv eok rfl rfl rfl rfl ?_)
      | refine Xq eok rfl rfl rfl rfl ?_ ?_
      | refine Xn [0, 1, 2, 4, 5, 6, 8, 9, 13] rfl ?_
      | refine Xa eok rfl rfl rfl rfl rfl ?_ ?_
      | refine Xw eok rfl rfl rfl rfl ?_ ?_)
     | refine W_seq ?_
     | refine W_region ?_
     | refine W_skip ?_
     | refine W_ret ?_
     | refine W_block ?_
     | refine W_exit ?_
     | refine W_cond_t rfl ?_
     | refine W_cond_f rfl ?_
     | (refine W_cond rfl (fun hc => ?_) (fun hc => ?_) <;> (try simp only [decide_eq_true_eq, decide_eq_false_iff_not, Bool.not_eq_true', Bool.not_eq_false', beq_iff_eq, beq_eq_false_iff_ne, bne_iff_ne, bne_eq_false_iff_eq, ne_eq, Int.not_lt, Int.not_le, ge_iff_le, gt_iff_lt] at hc) <;> (try (exfalso; omega))))
    exact ⟨⟨[(4, .sl 3 (ofK key l).length 4)], [.gone, .gone, .gone, .a (itemsD (ofK key l))], Try.f20.ntmps⟩, (TSub.cut rfl (by repeat' (first | exact True.intro | refine And.intro (by (first | rfl | ((with_reducible_and_instances refine congrArg (fun z => some (AV.d (D.i _ z))) ?_); omega) | (refine congrArg (fun z => some (AV.d (D.i _ z))) (?_ : (_ : Int) = _); omega) | (refine congrArg some ?_; simp; done))) ?_)) (by repeat' (first | exact True.intro | refine And.intro (Or.inr rfl) ?_ | refine And.intro (Or.inl ⟨rfl, rfl⟩) ?_ | refine And.intro (Or.inr (by simp)) ?_)) (by first | rfl | (simp (decide := true) [heapOk, Blk.ok, AV.oks, AV.ok, hk]; done)) rfl), Nat.zero_le _, _, _, rfl, rfl, rfl, rfl⟩
theorem Of_fn (key : List UInt8) (l : List Item) (hl : l.length ≤ 1000) : Go.Gar.Fn Try.prog 20 [.s key, itemsD l] (itemsD (ofK key l)) := by
  refine Fn_of_D (ds := [.s key, itemsD l]) (Of_own key l hl) ?_
  simp [Frz_sl, sln]
end Go.Proofs.Ytflikcmbbljgeaa
