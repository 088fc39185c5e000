/- Written by a program (pre.py) from the source of the same name. -/
/- Pairs: all keys. -/
import Derived.Test.YtflikcmbbljgeaaItem5
import Derived.Test.YtflikcmbbljgeaaItemP
set_option linter.unusedSimpArgs false
set_option linter.unusedVariables false
set_option linter.unnecessarySimpa false
namespace Go.Proofs.Ytflikcmbbljgeaa
open Go.Gar Go.Shelf Go.Sort
set_option maxRecDepth 4000

/-- All keys, in order, each once. -/
def keysT (l : List Item) : List (List UInt8) := keysB (l.map Item.key)
theorem sortB_len (l : List (List UInt8)) : (sortB l).length = l.length := List.length_mergeSort ..

set_option maxHeartbeats 4000000 in
theorem Keys_own (l : List Item) (hl : l.length ≤ 1000) (h0 : 0 < l.length) :
    FnD Try.prog 17 [.d (itemsD l)] [] (.sl 3 (keysT l).length 1) [.gone, .gone, .gone, .a (strsD (keysT l))] := by
  refine FnD_of_W eok Try.func17 rfl rfl (Nat.le_of_ble_eq_true rfl) ?_
  have nS := True.intro
  repeat' (first
   | ((with_reducible refine sg ?_); first
    | with_reducible rfl
    | ((with_reducible refine fitG ?_); first | kernel_rfl | rfl | (simp [fitT, fitF, nS]; done))
    | with_reducible refine andT ?_ ?_
    | with_reducible exact Nat.beq_refl _
    | with_reducible exact fitsI_u8 _
    | ((with_reducible refine decide_eq_true ?_); first | omega | (simp only [SZl, nS]; omega))
    | decide
    | (simp [SZl, slc, allOneD, D.one, allOne, AV.one, nS]; done)
    | (simp [SZl, nS]; omega))
   | ((with_reducible refine gWl ?_); first
    | (refine Wl_isMv rfl ?_; refine Xmv eok rfl rfl rfl rfl ?_)
    | refine Xq eok rfl rfl rfl rfl ?_ ?_
    | refine Xn [0, 2, 3, 4, 6, 7] rfl ?_
    | refine XD [] (each_fn l) rfl rfl rfl (by repeat' (first | exact True.intro | refine And.intro rfl ?_)) rfl rfl rfl rfl ?_
    | refine Xa eok rfl rfl rfl rfl rfl ?_ ?_
    | refine Xw eok rfl rfl rfl rfl ?_ ?_)
   | refine W_seq ?_
   | refine W_region ?_
   | refine W_skip ?_
   | refine W_ret ?_
   | refine W_block ?_
   | refine W_exit ?_
   | refine W_cond_t rfl ?_
   | refine W_cond_f rfl ?_
   | (refine W_cond rfl (fun hc => ?_) (fun hc => ?_) <;> (try simp only [decide_eq_true_eq, decide_eq_false_iff_not, Bool.not_eq_true', Bool.not_eq_false', beq_iff_eq, beq_eq_false_iff_ne, bne_iff_ne, bne_eq_false_iff_eq, ne_eq, Int.not_lt, Int.not_le, ge_iff_le, gt_iff_lt] at hc) <;> (try (exfalso; omega))))
  refine W_ghost (TSub.e0ownc 0 0 (.sl 1 []) rfl rfl rfl rfl (by simp [slOk])) (by simp) ?_
  refine W_ghost (TSub.e0own 2 (.sl 1 []) rfl rfl rfl (by simp [slOk])) (by simp) ?_
  refine W_rangeX (K := fun r _ H' => H' = [.c [.sl 2 (l.map Item.key).length 1], .c [.d (itemsD l)], .a (strsD (l.map Item.key)), .a (strsD []), .lp r]) rfl (by first | (simp only [NSl, NHl, Nat.reduceAdd, Int.reduceAdd, Int.reduceSub, Int.reduceMul, Int.reduceToNat]; done) | (simp only [NSl, NHl, Nat.reduceAdd, Int.reduceAdd, Int.reduceSub, Int.reduceMul, Int.reduceToNat]; rfl) | rfl) (by first | (simp only [NSl, NHl, Nat.reduceAdd, Int.reduceAdd, Int.reduceSub, Int.reduceMul, Int.reduceToNat]; done) | (simp only [NSl, NHl, Nat.reduceAdd, Int.reduceAdd, Int.reduceSub, Int.reduceMul, Int.reduceToNat]; rfl) | rfl) (fun r => (by first | (simp only [NSl, NHl, Nat.reduceAdd, Int.reduceAdd, Int.reduceSub, Int.reduceMul, Int.reduceToNat]; done) | (simp only [NSl, NHl, Nat.reduceAdd, Int.reduceAdd, Int.reduceSub, Int.reduceMul, Int.reduceToNat]; rfl) | rfl)) ?_ ?_
  · intro r hr
    refine FnT_of_G eok Try.func85 rfl rfl (Nat.le_of_ble_eq_true rfl) ?_
    have nS := True.intro
    repeat' (first
     | ((with_reducible refine sg ?_); first
      | with_reducible rfl
      | ((with_reducible refine fitG ?_); first | kernel_rfl | rfl | (simp [fitT, fitF, nS]; done))
      | with_reducible refine andT ?_ ?_
      | with_reducible exact Nat.beq_refl _
      | with_reducible exact fitsI_u8 _
      | ((with_reducible refine decide_eq_true ?_); first | omega | (simp only [SZl, nS]; omega))
      | decide
      | (simp [SZl, slc, allOneD, D.one, allOne, AV.one, nS]; done)
      | (simp [SZl, nS]; omega))
     | ((with_reducible refine gWl ?_); first
      | (refine Wl_isMv rfl ?_; refine Xmv eok rfl rfl rfl rfl ?_)
      | refine Xq eok rfl rfl rfl rfl ?_ ?_
      | refine Xn [0, 1, 4, 5, 6, 7, 8, 14] rfl ?_
      | refine Xa eok rfl rfl rfl rfl rfl ?_ ?_
      | refine Xw eok rfl rfl rfl rfl ?_ ?_)
     | refine W_seq ?_
     | refine W_region ?_
     | refine W_skip ?_
     | refine W_ret ?_
     | refine W_block ?_
     | refine W_exit ?_
     | refine W_cond_t rfl ?_
     | refine W_cond_f rfl ?_
     | (refine W_cond rfl (fun hc => ?_) (fun hc => ?_) <;> (try simp only [decide_eq_true_eq, decide_eq_false_iff_not, Bool.not_eq_true', Bool.not_eq_false', beq_iff_eq, beq_eq_false_iff_ne, bne_iff_ne, bne_eq_false_iff_eq, ne_eq, Int.not_lt, Int.not_le, ge_iff_le, gt_iff_lt] at hc) <;> (try (exfalso; omega))))
    have hk := hr.ok (k := 4) rfl
    refine W_loopI (fun k => k ≤ l.length) (fun k : Nat => ⟨[(0, .yl 4), (1, .ptr 1 0 1), (5, .d (itemsD l)), (6, .d (.i .i64 l.length)), (7, .d (.i .i64 k))], [.c [.sl 2 ((l.take k).map Item.key).length 1], .c [.d (itemsD l)], .a (strsD ((l.take k).map Item.key)), .a (strsD []), .lp r], 16⟩) (fun k => l.length - k) 0 (Nat.zero_le _) ?_ (Nat.le_refl _) ?_
    · exact TSub.cut rfl (by repeat' (first | exact True.intro | refine And.intro (by (first | rfl | ((with_reducible_and_instances refine congrArg (fun z => some (AV.d (D.i _ z))) ?_); omega) | (refine congrArg (fun z => some (AV.d (D.i _ z))) (?_ : (_ : Int) = _); omega) | (refine congrArg some ?_; simp only [List.take_zero, List.map_nil]; done) | (refine congrArg some ?_; simp [List.take_zero, List.map_nil]; done))) ?_)) (by repeat' (first | exact True.intro | refine And.intro (Or.inr rfl) ?_ | refine And.intro (Or.inl ⟨rfl, rfl⟩) ?_ | refine And.intro (Or.inr (by simp only [List.take_zero, List.map_nil])) ?_ | refine And.intro (Or.inr (by simp [List.take_zero, List.map_nil])) ?_)) (by first | rfl | (simp (decide := true) [heapOk, Blk.ok, AV.oks, AV.ok, hk]; done)) rfl
    intro k hkk
    have htl : ((l.take k).map Item.key).length ≤ k := by rw [List.length_map]; exact List.length_take_le _ _
    by_cases hkl : k < l.length
    · obtain ⟨x, hx⟩ := get_of hkl
      have hn : (l.take (k + 1)).map Item.key = (l.take k).map Item.key ++ [x.key] := by rw [take_succ_of hx, List.map_append]; rfl
      have nS := True.intro
      repeat' (first
       | ((with_reducible refine sg ?_); first
        | with_reducible rfl
        | ((with_reducible refine fitG ?_); first | kernel_rfl | rfl | (simp [fitT, fitF, nS]; done))
        | with_reducible refine andT ?_ ?_
        | with_reducible exact Nat.beq_refl _
        | with_reducible exact fitsI_u8 _
        | ((with_reducible refine decide_eq_true ?_); first | omega | (simp only [SZl, nS]; omega))
        | decide
        | (simp [SZl, slc, allOneD, D.one, allOne, AV.one, nS]; done)
        | (simp [SZl, nS]; omega))
       | ((with_reducible refine gWl ?_); first
        | (refine Wl_isMv rfl ?_; refine Xmv eok rfl rfl rfl rfl ?_)
        | (refine Wl_isIx rfl ?_; refine Xix eok rfl rfl rfl rfl rfl (Int.natCast_nonneg _) (ix_map hx) ?_)
        | refine Xq eok rfl rfl rfl rfl ?_ ?_
        | refine Xn [0, 1, 4, 5, 6, 7, 8, 14] rfl ?_
        | refine Xa eok rfl rfl rfl rfl rfl ?_ ?_
        | refine Xw eok rfl rfl rfl rfl ?_ ?_)
       | refine W_seq ?_
       | refine W_region ?_
       | refine W_skip ?_
       | refine W_ret ?_
       | refine W_block ?_
       | refine W_exit ?_
       | refine W_cond_t rfl ?_
       | refine W_cond_f rfl ?_
       | (refine W_cond rfl (fun hc => ?_) (fun hc => ?_) <;> (try simp only [decide_eq_true_eq, decide_eq_false_iff_not, Bool.not_eq_true', Bool.not_eq_false', beq_iff_eq, beq_eq_false_iff_ne, bne_iff_ne, bne_eq_false_iff_eq, ne_eq, Int.not_lt, Int.not_le, ge_iff_le, gt_iff_lt] at hc) <;> (try (exfalso; omega))))
      refine Xy (x := .d (.b true)) (H' := [.c [.sl 2 ((l.take (k + 1)).map Item.key).length 1], .c [.d (itemsD l)], .a (strsD ((l.take (k + 1)).map Item.key)), .a (strsD []), .lp r, .c [.d (.s x.key), .d (.i .i64 x.value), .d (.i .i64 x.version), .d (.b x.gone)], .c [.d (.s x.key), .d (.i .i64 x.value), .d (.i .i64 x.version), .d (.b x.gone)]]) (YT_of_L hr rfl rfl rfl ?_) rfl rfl rfl rfl rfl ?_
      · have nS := True.intro
        repeat' (first
         | ((with_reducible refine sg ?_); first
          | with_reducible rfl
          | ((with_reducible refine fitG ?_); first | kernel_rfl | rfl | (simp [fitT, fitF, nS]; done))
          | with_reducible refine andT ?_ ?_
          | with_reducible exact Nat.beq_refl _
          | with_reducible exact fitsI_u8 _
          | ((with_reducible refine decide_eq_true ?_); first | omega | (simp only [SZl, nS]; omega))
          | decide
          | (simp [SZl, slc, allOneD, D.one, allOne, AV.one, nS]; done)
          | (simp [SZl, nS]; omega))
         | ((with_reducible refine gWl ?_); first
          | (refine Wl_isMv rfl ?_; refine Xmv eok rfl rfl rfl rfl ?_)
          | refine Xq eok rfl rfl rfl rfl ?_ ?_
          | refine Xn [0, 2, 3, 4, 6, 7] rfl ?_
          | refine Xa eok rfl rfl rfl rfl rfl ?_ ?_
          | refine Xw eok rfl rfl rfl rfl ?_ ?_)
         | refine W_seq ?_
         | refine W_region ?_
         | refine W_skip ?_
         | refine W_ret ?_
         | refine W_block ?_
         | refine W_exit ?_
         | refine W_cond_t rfl ?_
         | refine W_cond_f rfl ?_
         | (refine W_cond rfl (fun hc => ?_) (fun hc => ?_) <;> (try simp only [decide_eq_true_eq, decide_eq_false_iff_not, Bool.not_eq_true', Bool.not_eq_false', beq_iff_eq, beq_eq_false_iff_ne, bne_iff_ne, bne_eq_false_iff_eq, ne_eq, Int.not_lt, Int.not_le, ge_iff_le, gt_iff_lt] at hc) <;> (try (exfalso; omega))))
        refine ⟨rfl, W_hp (by first | (simp only [NSl, NHl, Nat.reduceAdd, Int.reduceAdd, Int.reduceSub, Int.reduceMul, Int.reduceToNat]; done) | (simp only [NSl, NHl, Nat.reduceAdd, Int.reduceAdd, Int.reduceSub, Int.reduceMul, Int.reduceToNat]; rfl) | rfl) ?_⟩
        have nS := True.intro
        repeat' (first
         | ((with_reducible refine sg ?_); first
          | with_reducible rfl
          | ((with_reducible refine fitG ?_); first | kernel_rfl | rfl | (simp [fitT, fitF, nS]; done))
          | with_reducible refine andT ?_ ?_
          | with_reducible exact Nat.beq_refl _
          | with_reducible exact fitsI_u8 _
          | ((with_reducible refine decide_eq_true ?_); first | omega | (simp only [SZl, nS]; omega))
          | decide
          | (simp [SZl, slc, allOneD, D.one, allOne, AV.one, nS]; done)
          | (simp [SZl, nS]; omega))
         | ((with_reducible refine gWl ?_); first
          | (refine Wl_isMv rfl ?_; refine Xmv eok rfl rfl rfl rfl ?_)
          | refine Xq eok rfl rfl rfl rfl ?_ ?_
          | refine Xn [0, 2, 3, 4, 6, 7] rfl ?_
          | refine Xa eok rfl rfl rfl rfl rfl ?_ ?_
          | refine Xw eok rfl rfl rfl rfl ?_ ?_)
         | refine W_seq ?_
         | refine W_region ?_
         | refine W_skip ?_
         | refine W_ret ?_
         | refine W_block ?_
         | refine W_exit ?_
         | refine W_cond_t rfl ?_
         | refine W_cond_f rfl ?_
         | (refine W_cond rfl (fun hc => ?_) (fun hc => ?_) <;> (try simp only [decide_eq_true_eq, decide_eq_false_iff_not, Bool.not_eq_true', Bool.not_eq_false', beq_iff_eq, beq_eq_false_iff_ne, bne_iff_ne, bne_eq_false_iff_eq, ne_eq, Int.not_lt, Int.not_le, ge_iff_le, gt_iff_lt] at hc) <;> (try (exfalso; omega))))
        refine ⟨_, TSub.refl _, Nat.le_succ _, rfl, rfl, ?_⟩
        simp only [hn, strsD, List.map_append, List.map_cons, List.map_nil, List.length_append, List.length_map, List.length_cons, List.length_nil, List.set_cons_succ, List.set_cons_zero]
      · have nS := True.intro
        repeat' (first
         | ((with_reducible refine sg ?_); first
          | with_reducible rfl
          | ((with_reducible refine fitG ?_); first | kernel_rfl | rfl | (simp [fitT, fitF, nS]; done))
          | with_reducible refine andT ?_ ?_
          | with_reducible exact Nat.beq_refl _
          | with_reducible exact fitsI_u8 _
          | ((with_reducible refine decide_eq_true ?_); first | omega | (simp only [SZl, nS]; omega))
          | decide
          | (simp [SZl, slc, allOneD, D.one, allOne, AV.one, nS]; done)
          | (simp [SZl, nS]; omega))
         | ((with_reducible refine gWl ?_); first
          | (refine Wl_isMv rfl ?_; refine Xmv eok rfl rfl rfl rfl ?_)
          | refine Xq eok rfl rfl rfl rfl ?_ ?_
          | refine Xn [0, 1, 4, 5, 6, 7, 8, 14] rfl ?_
          | refine Xa eok rfl rfl rfl rfl rfl ?_ ?_
          | refine Xw eok rfl rfl rfl rfl ?_ ?_)
         | refine W_seq ?_
         | refine W_region ?_
         | refine W_skip ?_
         | refine W_ret ?_
         | refine W_block ?_
         | refine W_exit ?_
         | refine W_cond_t rfl ?_
         | refine W_cond_f rfl ?_
         | (refine W_cond rfl (fun hc => ?_) (fun hc => ?_) <;> (try simp only [decide_eq_true_eq, decide_eq_false_iff_not, Bool.not_eq_true', Bool.not_eq_false', beq_iff_eq, beq_eq_false_iff_ne, bne_iff_ne, bne_eq_false_iff_eq, ne_eq, Int.not_lt, Int.not_le, ge_iff_le, gt_iff_lt] at hc) <;> (try (exfalso; omega))))
        refine ⟨k + 1, hkl, by omega, Nat.le_refl _, ?_⟩
        exact TSub.cut rfl (by repeat' (first | exact True.intro | refine And.intro (by (first | rfl | ((with_reducible_and_instances refine congrArg (fun z => some (AV.d (D.i _ z))) ?_); omega) | (refine congrArg (fun z => some (AV.d (D.i _ z))) (?_ : (_ : Int) = _); omega) | (refine congrArg some ?_; simp only [hn]; done) | (refine congrArg some ?_; simp [hn]; done))) ?_)) (by repeat' (first | exact True.intro | refine And.intro (Or.inr rfl) ?_ | refine And.intro (Or.inl ⟨rfl, rfl⟩) ?_ | refine And.intro (Or.inr (by simp only [hn])) ?_ | refine And.intro (Or.inr (by simp [hn])) ?_)) (by first | rfl | (simp (decide := true) [heapOk, Blk.ok, AV.oks, AV.ok, hk]; done)) rfl
    · have e : k = l.length := by omega
      subst e
      have nS := True.intro
      repeat' (first
       | ((with_reducible refine sg ?_); first
        | with_reducible rfl
        | ((with_reducible refine fitG ?_); first | kernel_rfl | rfl | (simp [fitT, fitF, nS]; done))
        | with_reducible refine andT ?_ ?_
        | with_reducible exact Nat.beq_refl _
        | with_reducible exact fitsI_u8 _
        | ((with_reducible refine decide_eq_true ?_); first | omega | (simp only [SZl, nS]; omega))
        | decide
        | (simp [SZl, slc, allOneD, D.one, allOne, AV.one, nS]; done)
        | (simp [SZl, nS]; omega))
       | ((with_reducible refine gWl ?_); first
        | (refine Wl_isMv rfl ?_; refine Xmv eok rfl rfl rfl rfl ?_)
        | refine Xq eok rfl rfl rfl rfl ?_ ?_
        | refine Xn [0, 1, 4, 5, 6, 7, 8, 14] rfl ?_
        | refine Xa eok rfl rfl rfl rfl rfl ?_ ?_
        | refine Xw eok rfl rfl rfl rfl ?_ ?_)
       | refine W_seq ?_
       | refine W_region ?_
       | refine W_skip ?_
       | refine W_ret ?_
       | refine W_block ?_
       | refine W_exit ?_
       | refine W_cond_t rfl ?_
       | refine W_cond_f rfl ?_
       | (refine W_cond rfl (fun hc => ?_) (fun hc => ?_) <;> (try simp only [decide_eq_true_eq, decide_eq_false_iff_not, Bool.not_eq_true', Bool.not_eq_false', beq_iff_eq, beq_eq_false_iff_ne, bne_iff_ne, bne_eq_false_iff_eq, ne_eq, Int.not_lt, Int.not_le, ge_iff_le, gt_iff_lt] at hc) <;> (try (exfalso; omega))))
      refine ⟨_, TSub.refl _, Nat.le_refl _, _, _, rfl, rfl, ?_⟩
      simp only [List.take_length]
  · rintro r hr x H' rfl
    refine .inl ⟨rfl, ?_⟩
    have hs := sort_own (l.map Item.key) (by rw [List.length_map]; omega)
    have hc := compact_own2 (sortB (l.map Item.key)) (by rw [sortB_len, List.length_map]; omega) (by rw [sortB_len, List.length_map]; omega)
    rw [sortB_len, List.length_map] at hc
    rw [List.length_map] at hs
    have nS := True.intro
    repeat' (first
     | ((with_reducible refine sg ?_); first
      | with_reducible rfl
      | ((with_reducible refine fitG ?_); first | kernel_rfl | rfl | (simp [fitT, fitF, nS]; done))
      | with_reducible refine andT ?_ ?_
      | with_reducible exact Nat.beq_refl _
      | with_reducible exact fitsI_u8 _
      | ((with_reducible refine decide_eq_true ?_); first | omega | (simp only [SZl, nS]; omega))
      | decide
      | (simp [SZl, slc, allOneD, D.one, allOne, AV.one, nS]; done)
      | (simp [SZl, nS]; omega))
     | ((with_reducible refine gWl ?_); first
      | (refine Wl_isMv rfl ?_; refine Xmv eok rfl rfl rfl rfl ?_)
      | refine Xq eok rfl rfl rfl rfl ?_ ?_
      | refine Xn [0, 2, 3, 4, 6, 7] rfl ?_
      | refine XD [2] (hs) rfl rfl rfl (by repeat' (first | exact True.intro | refine And.intro rfl ?_)) rfl rfl rfl rfl ?_
      | refine XD [2, 3] (hc) rfl rfl rfl (by repeat' (first | exact True.intro | refine And.intro rfl ?_)) rfl rfl rfl rfl ?_
      | refine Xa eok rfl rfl rfl rfl rfl ?_ ?_
      | refine Xw eok rfl rfl rfl rfl ?_ ?_)
     | refine W_seq ?_
     | refine W_region ?_
     | refine W_skip ?_
     | refine W_ret ?_
     | refine W_block ?_
     | refine W_exit ?_
     | refine W_cond_t rfl ?_
     | refine W_cond_f rfl ?_
     | (refine W_cond rfl (fun hc => ?_) (fun hc => ?_) <;> (try simp only [decide_eq_true_eq, decide_eq_false_iff_not, Bool.not_eq_true', Bool.not_eq_false', beq_iff_eq, beq_eq_false_iff_ne, bne_iff_ne, bne_eq_false_iff_eq, ne_eq, Int.not_lt, Int.not_le, ge_iff_le, gt_iff_lt] at hc) <;> (try (exfalso; omega))))
    exact ⟨⟨[(2, .sl 3 (keysT l).length 1)], [.gone, .gone, .gone, .a (strsD (keysT l))], Try.f17.ntmps⟩, (TSub.cut rfl (by repeat' (first | exact True.intro | refine And.intro (by (first | rfl | ((with_reducible_and_instances refine congrArg (fun z => some (AV.d (D.i _ z))) ?_); omega) | (refine congrArg (fun z => some (AV.d (D.i _ z))) (?_ : (_ : Int) = _); omega) | (refine congrArg some ?_; simp; done))) ?_)) (by repeat' (first | exact True.intro | refine And.intro (Or.inr rfl) ?_ | refine And.intro (Or.inl ⟨rfl, rfl⟩) ?_ | refine And.intro (Or.inr (by simp)) ?_)) (by first | rfl | (simp (decide := true) [heapOk, Blk.ok, AV.oks, AV.ok, hk]; done)) rfl), Nat.zero_le _, _, _, rfl, rfl, rfl, rfl⟩

/-- .. of no pairs. -/
theorem nil_call {f : FuncId} {r : AV} (hcal : Callable Try.prog f) (hr : ∀ G a w, Calls Try.prog f #[.slice a 0 0] w fun e w' => ∃ v, e = .returned v ∧ RV G r v ∧ w' = w) : FnD Try.prog f [.e0] [] r [] := by
  refine ⟨hcal, fun G w vs hG hR hv => ?_⟩
  rw [callsIn_wide]
  obtain ⟨v, r0, hvs, hv1, hr0⟩ := hv
  simp only [RVs] at hr0
  subst hr0
  have hvs' : vs = #[v] := by rw [← Array.toArray_toList (xs := vs), hvs]
  subst hvs'
  simp only [RV] at hv1
  obtain ⟨a, rfl⟩ := hv1
  refine (hr G a w).mono ?_
  rintro e w' ⟨v, rfl, h1, rfl⟩
  exact ⟨v, r, G, rfl, ⟨rfl, hG⟩, h1, hR, Frm.refl G _⟩
theorem sort_nil : FnD Try.prog 54 [.e0] [] (.d (.tup [])) [] :=
  nil_call ⟨_, Try.func54, rfl, rfl⟩ fun G a w => (calls_of_every_depth fun D => AnyS.slices_Sort_string_none_alone Try.laysSort D a 0 w).mono fun e w' ⟨h1, h2⟩ => ⟨_, h1, by simp only [RV, RD]; exact ⟨[], rfl, rfl⟩, h2⟩
theorem compact_nil : FnD Try.prog 55 [.e0] [] .e0 [] :=
  nil_call ⟨_, Try.func55, rfl, rfl⟩ fun G a w => (calls_of_every_depth fun D => AnyS.slices_Compact_string_empty_in Try.laysCompact D a 0 w).mono fun e w' ⟨h1, h2⟩ => ⟨_, h1, by simp only [RV]; exact ⟨a, rfl⟩, h2⟩
theorem Keys_nil : FnD Try.prog 17 [.d (itemsD [])] [] .e0 [] := by
  refine FnD_of_W eok Try.func17 rfl rfl (Nat.le_of_ble_eq_true rfl) ?_
  have nS := True.intro
  repeat' (first
   | ((with_reducible refine sg ?_); first
    | with_reducible rfl
    | ((with_reducible refine fitG ?_); first | kernel_rfl | rfl | (simp [fitT, fitF, nS]; done))
    | with_reducible refine andT ?_ ?_
    | with_reducible exact Nat.beq_refl _
    | with_reducible exact fitsI_u8 _
    | ((with_reducible refine decide_eq_true ?_); first | omega | (simp only [SZl, nS]; omega))
    | decide
    | (simp [SZl, slc, allOneD, D.one, allOne, AV.one, nS]; done)
    | (simp [SZl, nS]; omega))
   | ((with_reducible refine gWl ?_); first
    | (refine Wl_isMv rfl ?_; refine Xmv eok rfl rfl rfl rfl ?_)
    | refine Xq eok rfl rfl rfl rfl ?_ ?_
    | refine Xn [0, 2, 3, 4, 6, 7] rfl ?_
    | refine XD [] (each_fn []) rfl rfl rfl (by repeat' (first | exact True.intro | refine And.intro rfl ?_)) rfl rfl rfl rfl ?_
    | refine Xa eok rfl rfl rfl rfl rfl ?_ ?_
    | refine Xw eok rfl rfl rfl rfl ?_ ?_)
   | refine W_seq ?_
   | refine W_region ?_
   | refine W_skip ?_
   | refine W_ret ?_
   | refine W_block ?_
   | refine W_exit ?_
   | refine W_cond_t rfl ?_
   | refine W_cond_f rfl ?_
   | (refine W_cond rfl (fun hc => ?_) (fun hc => ?_) <;> (try simp only [decide_eq_true_eq, decide_eq_false_iff_not, Bool.not_eq_true', Bool.not_eq_false', beq_iff_eq, beq_eq_false_iff_ne, bne_iff_ne, bne_eq_false_iff_eq, ne_eq, Int.not_lt, Int.not_le, ge_iff_le, gt_iff_lt] at hc) <;> (try (exfalso; omega))))
  refine W_rangeX (K := fun r _ H' => H' = [.c [.e0], .c [.d (itemsD [])], .lp r]) rfl (by first | (simp only [NSl, NHl, Nat.reduceAdd, Int.reduceAdd, Int.reduceSub, Int.reduceMul, Int.reduceToNat]; done) | (simp only [NSl, NHl, Nat.reduceAdd, Int.reduceAdd, Int.reduceSub, Int.reduceMul, Int.reduceToNat]; rfl) | rfl) (by first | (simp only [NSl, NHl, Nat.reduceAdd, Int.reduceAdd, Int.reduceSub, Int.reduceMul, Int.reduceToNat]; done) | (simp only [NSl, NHl, Nat.reduceAdd, Int.reduceAdd, Int.reduceSub, Int.reduceMul, Int.reduceToNat]; rfl) | rfl) (fun r => (by first | (simp only [NSl, NHl, Nat.reduceAdd, Int.reduceAdd, Int.reduceSub, Int.reduceMul, Int.reduceToNat]; done) | (simp only [NSl, NHl, Nat.reduceAdd, Int.reduceAdd, Int.reduceSub, Int.reduceMul, Int.reduceToNat]; rfl) | rfl)) ?_ ?_
  · intro r hr
    refine FnT_of_G eok Try.func85 rfl rfl (Nat.le_of_ble_eq_true rfl) ?_
    have nS := True.intro
    repeat' (first
     | ((with_reducible refine sg ?_); first
      | with_reducible rfl
      | ((with_reducible refine fitG ?_); first | kernel_rfl | rfl | (simp [fitT, fitF, nS]; done))
      | with_reducible refine andT ?_ ?_
      | with_reducible exact Nat.beq_refl _
      | with_reducible exact fitsI_u8 _
      | ((with_reducible refine decide_eq_true ?_); first | omega | (simp only [SZl, nS]; omega))
      | decide
      | (simp [SZl, slc, allOneD, D.one, allOne, AV.one, nS]; done)
      | (simp [SZl, nS]; omega))
     | ((with_reducible refine gWl ?_); first
      | (refine Wl_isMv rfl ?_; refine Xmv eok rfl rfl rfl rfl ?_)
      | refine Xq eok rfl rfl rfl rfl ?_ ?_
      | refine Xn [0, 1, 4, 5, 6, 7, 8, 14] rfl ?_
      | refine Xa eok rfl rfl rfl rfl rfl ?_ ?_
      | refine Xw eok rfl rfl rfl rfl ?_ ?_)
     | refine W_seq ?_
     | refine W_region ?_
     | refine W_skip ?_
     | refine W_ret ?_
     | refine W_block ?_
     | refine W_exit ?_
     | refine W_cond_t rfl ?_
     | refine W_cond_f rfl ?_
     | (refine W_cond rfl (fun hc => ?_) (fun hc => ?_) <;> (try simp only [decide_eq_true_eq, decide_eq_false_iff_not, Bool.not_eq_true', Bool.not_eq_false', beq_iff_eq, beq_eq_false_iff_ne, bne_iff_ne, bne_eq_false_iff_eq, ne_eq, Int.not_lt, Int.not_le, ge_iff_le, gt_iff_lt] at hc) <;> (try (exfalso; omega))))
    have hk := hr.ok (k := 2) rfl
    refine W_loopI (fun k => k = 0) (fun k : Nat => ⟨[(0, .yl 2), (1, .ptr 1 0 1), (5, .d (itemsD [])), (6, .d (.i .i64 0)), (7, .d (.i .i64 k))], [.c [.e0], .c [.d (itemsD [])], .lp r], 16⟩) (fun k => 0) 0 rfl ?_ (Nat.le_refl _) ?_
    · exact TSub.cut rfl (by repeat' (first | exact True.intro | refine And.intro (by (first | rfl | ((with_reducible_and_instances refine congrArg (fun z => some (AV.d (D.i _ z))) ?_); omega) | (refine congrArg (fun z => some (AV.d (D.i _ z))) (?_ : (_ : Int) = _); omega) | (refine congrArg some ?_; simp; done))) ?_)) (by repeat' (first | exact True.intro | refine And.intro (Or.inr rfl) ?_ | refine And.intro (Or.inl ⟨rfl, rfl⟩) ?_ | refine And.intro (Or.inr (by simp)) ?_)) (by first | rfl | (simp (decide := true) [heapOk, Blk.ok, AV.oks, AV.ok, hk]; done)) rfl
    rintro k rfl
    have nS := True.intro
    repeat' (first
     | ((with_reducible refine sg ?_); first
      | with_reducible rfl
      | ((with_reducible refine fitG ?_); first | kernel_rfl | rfl | (simp [fitT, fitF, nS]; done))
      | with_reducible refine andT ?_ ?_
      | with_reducible exact Nat.beq_refl _
      | with_reducible exact fitsI_u8 _
      | ((with_reducible refine decide_eq_true ?_); first | omega | (simp only [SZl, nS]; omega))
      | decide
      | (simp [SZl, slc, allOneD, D.one, allOne, AV.one, nS]; done)
      | (simp [SZl, nS]; omega))
     | ((with_reducible refine gWl ?_); first
      | (refine Wl_isMv rfl ?_; refine Xmv eok rfl rfl rfl rfl ?_)
      | refine Xq eok rfl rfl rfl rfl ?_ ?_
      | refine Xn [0, 1, 4, 5, 6, 7, 8, 14] rfl ?_
      | refine Xa eok rfl rfl rfl rfl rfl ?_ ?_
      | refine Xw eok rfl rfl rfl rfl ?_ ?_)
     | refine W_seq ?_
     | refine W_region ?_
     | refine W_skip ?_
     | refine W_ret ?_
     | refine W_block ?_
     | refine W_exit ?_
     | refine W_cond_t rfl ?_
     | refine W_cond_f rfl ?_
     | (refine W_cond rfl (fun hc => ?_) (fun hc => ?_) <;> (try simp only [decide_eq_true_eq, decide_eq_false_iff_not, Bool.not_eq_true', Bool.not_eq_false', beq_iff_eq, beq_eq_false_iff_ne, bne_iff_ne, bne_eq_false_iff_eq, ne_eq, Int.not_lt, Int.not_le, ge_iff_le, gt_iff_lt] at hc) <;> (try (exfalso; omega))))
    exact ⟨_, TSub.refl _, Nat.le_refl _, _, _, rfl, rfl, rfl⟩
  · rintro r hr x H' rfl
    refine .inl ⟨rfl, ?_⟩
    have nS := True.intro
    repeat' (first
     | ((with_reducible refine sg ?_); first
      | with_reducible rfl
      | ((with_reducible refine fitG ?_); first | kernel_rfl | rfl | (simp [fitT, fitF, nS]; done))
      | with_reducible refine andT ?_ ?_
      | with_reducible exact Nat.beq_refl _
      | with_reducible exact fitsI_u8 _
      | ((with_reducible refine decide_eq_true ?_); first | omega | (simp only [SZl, nS]; omega))
      | decide
      | (simp [SZl, slc, allOneD, D.one, allOne, AV.one, nS]; done)
      | (simp [SZl, nS]; omega))
     | ((with_reducible refine gWl ?_); first
      | (refine Wl_isMv rfl ?_; refine Xmv eok rfl rfl rfl rfl ?_)
      | refine Xq eok rfl rfl rfl rfl ?_ ?_
      | refine Xn [0, 2, 3, 4, 6, 7] rfl ?_
      | refine XD [] (sort_nil) rfl rfl rfl (by repeat' (first | exact True.intro | refine And.intro rfl ?_)) rfl rfl rfl rfl ?_
      | refine XD [] (compact_nil) rfl rfl rfl (by repeat' (first | exact True.intro | refine And.intro rfl ?_)) rfl rfl rfl rfl ?_
      | refine Xa eok rfl rfl rfl rfl rfl ?_ ?_
      | refine Xw eok rfl rfl rfl rfl ?_ ?_)
     | refine W_seq ?_
     | refine W_region ?_
     | refine W_skip ?_
     | refine W_ret ?_
     | refine W_block ?_
     | refine W_exit ?_
     | refine W_cond_t rfl ?_
     | refine W_cond_f rfl ?_
     | (refine W_cond rfl (fun hc => ?_) (fun hc => ?_) <;> (try simp only [decide_eq_true_eq, decide_eq_false_iff_not, Bool.not_eq_true', Bool.not_eq_false', beq_iff_eq, beq_eq_false_iff_ne, bne_iff_ne, bne_eq_false_iff_eq, ne_eq, Int.not_lt, Int.not_le, ge_iff_le, gt_iff_lt] at hc) <;> (try (exfalso; omega))))
    exact ⟨⟨[(2, .e0)], [], Try.f17.ntmps⟩, (TSub.cut rfl (by repeat' (first | exact True.intro | refine And.intro (by (first | rfl | ((with_reducible_and_instances refine congrArg (fun z => some (AV.d (D.i _ z))) ?_); omega) | (refine congrArg (fun z => some (AV.d (D.i _ z))) (?_ : (_ : Int) = _); omega) | (refine congrArg some ?_; simp; done))) ?_)) (by repeat' (first | exact True.intro | refine And.intro (Or.inr rfl) ?_ | refine And.intro (Or.inl ⟨rfl, rfl⟩) ?_ | refine And.intro (Or.inr (by simp)) ?_)) (by first | rfl | (simp (decide := true) [heapOk, Blk.ok, AV.oks, AV.ok, hk]; done)) rfl), Nat.zero_le _, _, _, rfl, rfl, rfl, rfl⟩
theorem Keys_fn (l : List Item) (hl : l.length ≤ 1000) : Go.Gar.Fn Try.prog 17 [itemsD l] (strsD (keysT l)) := by
  by_cases h0 : 0 < l.length
  · refine Fn_of_D (ds := [itemsD l]) (Keys_own l hl h0) ?_
    simp [Frz_sl, sln]
  · have e : l = [] := List.length_eq_zero_iff.1 (by omega)
    subst e
    refine Fn_of_D (ds := [itemsD []]) Keys_nil ?_
    have : keysT [] = [] := List.length_eq_zero_iff.1 (Nat.le_zero.1 (Nat.le_trans (compact_len _) (by rw [sortB_len]; exact Nat.le_refl _)))
    rw [this]
    simp [Frz_e0, isSl, sln, slOk]
end Go.Proofs.Ytflikcmbbljgeaa
