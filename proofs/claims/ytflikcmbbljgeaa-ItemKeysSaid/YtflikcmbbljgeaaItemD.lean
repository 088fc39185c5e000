/- Written by a program (pre.py) from the source of the same name. -/
/- Pairs: the law of keys. -/
import Derived.Test.YtflikcmbbljgeaaItem8
set_option linter.unusedSimpArgs false
set_option linter.unusedVariables false
set_option linter.unnecessarySimpa false
namespace Go.Proofs.Ytflikcmbbljgeaa
open Go.Gar
set_option maxRecDepth 4000

def manyT (ks : List (List UInt8)) (l : List Item) : Nat := (ks.map fun y => (ofK y l).length).sum
theorem many_succ {ks : List (List UInt8)} {l : List Item} {k : Nat} {y : List UInt8} (hy : ks[k]? = some y) : manyT (ks.take (k + 1)) l = manyT (ks.take k) l + (ofK y l).length := by
  unfold manyT; rw [take_succ_of hy, List.map_append, List.sum_append]; simp
theorem one_of (x : List UInt8) : ∀ {ks : List (List UInt8)}, ks.Nodup → (ks.map fun y => if x = y then 1 else 0).sum = if x ∈ ks then 1 else 0
  | [], _ => by simp
  | a :: r, h => by
    obtain ⟨h1, h2⟩ := List.nodup_cons.1 h
    rw [List.map_cons, List.sum_cons, one_of x h2]
    by_cases e : x = a
    · subst e; simp [h1]
    · simp [e]
theorem sum_add {f g : List UInt8 → Nat} : ∀ {ks : List (List UInt8)}, (ks.map fun y => f y + g y).sum = (ks.map f).sum + (ks.map g).sum
  | [] => rfl
  | a :: r => by simp only [List.map_cons, List.sum_cons, sum_add (ks := r)]; omega
theorem many_all {ks : List (List UInt8)} (hn : ks.Nodup) : ∀ {l : List Item}, (∀ x ∈ l, x.key ∈ ks) → manyT ks l = l.length
  | [], _ => by
    unfold manyT ofK
    have : ∀ q : List (List UInt8), (q.map fun _ : List UInt8 => 0).sum = 0 := by
      intro q
      induction q with
      | nil => rfl
      | cons a r ih => simpa using ih
    simpa using this ks
  | x :: r, h => by
    have ih := many_all hn (l := r) fun y hy => h y (by simp [hy])
    have e : manyT ks (x :: r) = (ks.map fun y => (if x.key = y then 1 else 0) + (ofK y r).length).sum := by
      unfold manyT
      congr 1
      refine List.map_congr_left fun y _ => ?_
      unfold ofK
      by_cases e : x.key = y
      · simp [e, List.filter_cons]; omega
      · simp [e, List.filter_cons]
    rw [e, sum_add, one_of x.key hn, if_pos (h x (by simp))]
    unfold manyT at ih
    rw [ih, List.length_cons]; omega
theorem many_le (ks : List (List UInt8)) (l : List Item) (k : Nat) : manyT (ks.take k) l ≤ manyT ks l := by
  unfold manyT
  rw [← List.take_append_drop k ks, List.map_append, List.sum_append, List.take_append_drop]
  omega
theorem of_get {l : List Item} {y : List UInt8} {j : Nat} {x : Item} (hx : l[j]? = some x) (h : (x.key == y) = true) : (ofK y l)[(ofK y (l.take j)).length]? = some x := by
  have hj := (List.getElem?_eq_some_iff.1 hx).1
  have e : ofK y l = ofK y (l.take j) ++ x :: ofK y (l.drop (j + 1)) := by
    have h2 : l = l.take j ++ x :: l.drop (j + 1) := by
      have := List.drop_eq_getElem_cons hj
      rw [(List.getElem?_eq_some_iff.1 hx).2] at this
      rw [← this, List.take_append_drop]
    conv => lhs; rw [h2]
    unfold ofK
    rw [List.filter_append, List.filter_cons, if_pos h]
  rw [e, List.getElem?_append_right (Nat.le_refl _), Nat.sub_self]; rfl
theorem leq_no {a b : List UInt8} (h : b < a) : (Op.bytesLess a b || a == b) = false := by
  rw [bytesLess_eq, Bool.or_eq_false_iff]
  refine ⟨decide_eq_false fun h2 => List.lt_irrefl _ (List.lt_trans h h2), ?_⟩
  simpa using (str_ne h).symm

set_option maxHeartbeats 8000000 in
theorem itemKeys_fn (l : List Item) (key : List UInt8) : Go.Gar.Fn Try.prog 7 [itemsD l, .s key] (.b true) := by
  have cG := great_fn l
  refine Fn_of_W eok Try.func7 rfl rfl (Nat.le_of_ble_eq_true rfl) ?_
  cases hg : greatI l with
  | true =>
    rw [hg] at cG
    have nS := True.intro
    repeat' (first
     | ((with_reducible refine sg ?_); first
      | with_reducible rfl
      | ((with_reducible refine fitG ?_); first | kernel_rfl | rfl | (simp [fitT, fitF, nS]; done))
      | with_reducible refine andT ?_ ?_
      | with_reducible exact Nat.beq_refl _
      | with_reducible exact fitsI_u8 _
      | ((with_reducible refine decide_eq_true ?_); first | omega | (simp only [SZl, nS]; omega))
      | decide
      | (simp [SZl, slc, allOneD, D.one, allOne, AV.one, nS]; done)
      | (simp [SZl, nS]; omega))
     | ((with_reducible refine gWl ?_); first
      | (refine Wl_isMv rfl ?_; refine Xmv eok rfl rfl rfl rfl ?_)
      | refine Xq eok rfl rfl rfl rfl ?_ ?_
      | refine Xn [0, 1, 4, 5, 6, 7, 8, 9, 10, 11, 18, 25, 41, 50, 67, 79, 94, 100] rfl ?_
      | refine XF (cG) rfl rfl rfl rfl ?_
      | refine XF (wakes_fn) rfl rfl rfl rfl ?_
      | refine Xs rfl rfl rfl ?_
      | (refine Xsplit rfl rfl (fun hc => ?_) (fun hc => ?_) <;> (fail_if_success (with_reducible first | exact absurd (hc : true = false) (by decide) | exact absurd (hc : false = true) (by decide))) <;> (try simp only [decide_eq_true_eq, decide_eq_false_iff_not, Bool.not_eq_true', Bool.not_eq_false', beq_iff_eq, beq_eq_false_iff_ne, bne_iff_ne, bne_eq_false_iff_eq, ne_eq, Int.not_lt, Int.not_le, ge_iff_le, gt_iff_lt] at hc) <;> (try (exfalso; omega))))
     | ((with_reducible refine gWd ?_); first
      | (refine Wd_isMv rfl ?_; refine Ymv eok rfl rfl (fun _ => rfl) rfl rfl ?_)
      | refine Yp eok rfl rfl (fun _ => rfl) rfl rfl ?_ ?_
      | refine Yq rfl rfl rfl rfl rfl ?_ ?_
      | refine Ys rfl rfl rfl rfl ?_
      | refine YF (cG) rfl rfl rfl rfl rfl ?_
      | refine YF (wakes_fn) rfl rfl rfl rfl rfl ?_
      | refine Ya eok rfl rfl rfl rfl rfl rfl ?_ ?_
      | refine Yw eok rfl rfl rfl rfl rfl ?_ ?_
      | refine Yn [0, 1, 4, 5, 6, 7, 8, 9, 10, 11, 18, 25, 41, 50, 67, 79, 94, 100] [] mixed eok (by kernel_rfl) True.intro rfl ?_
      | (refine Ysplit rfl rfl (fun hc => ?_) (fun hc => ?_) <;> (fail_if_success (with_reducible first | exact absurd (hc : true = false) (by decide) | exact absurd (hc : false = true) (by decide))) <;> (try simp only [decide_eq_true_eq, decide_eq_false_iff_not, Bool.not_eq_true', Bool.not_eq_false', beq_iff_eq, beq_eq_false_iff_ne, bne_iff_ne, bne_eq_false_iff_eq, ne_eq, Int.not_lt, Int.not_le, ge_iff_le, gt_iff_lt] at hc) <;> (try (exfalso; omega))))
     | refine W_seq ?_
     | refine W_region ?_
     | refine W_any T.get ?_
     | refine W_skip ?_
     | refine W_ret ?_
     | refine W_block ?_
     | refine W_exit ?_
     | refine W_cond_t rfl ?_
     | refine W_cond_f rfl ?_
     | (refine W_cond rfl (fun hc => ?_) (fun hc => ?_) <;> (try simp only [decide_eq_true_eq, decide_eq_false_iff_not, Bool.not_eq_true', Bool.not_eq_false', beq_iff_eq, beq_eq_false_iff_ne, bne_iff_ne, bne_eq_false_iff_eq, ne_eq, Int.not_lt, Int.not_le, ge_iff_le, gt_iff_lt] at hc) <;> (try (exfalso; omega))))
    refine ⟨_, _, rfl, rfl, ?_⟩; simp [Frz_tup, Frz_ag, Frzs_cons, Frzs_nil, Frz_d, Frz_e0, Frz_sl, sln, isSl, slOk]
  | false =>
  rw [hg] at cG
  by_cases h1 : key.length > 100
  · have nS := True.intro
    repeat' (first
     | ((with_reducible refine sg ?_); first
      | with_reducible rfl
      | ((with_reducible refine fitG ?_); first | kernel_rfl | rfl | (simp [fitT, fitF, nS]; done))
      | with_reducible refine andT ?_ ?_
      | with_reducible exact Nat.beq_refl _
      | with_reducible exact fitsI_u8 _
      | ((with_reducible refine decide_eq_true ?_); first | omega | (simp only [SZl, nS]; omega))
      | decide
      | (simp [SZl, slc, allOneD, D.one, allOne, AV.one, nS]; done)
      | (simp [SZl, nS]; omega))
     | ((with_reducible refine gWl ?_); first
      | (refine Wl_isMv rfl ?_; refine Xmv eok rfl rfl rfl rfl ?_)
      | refine Xq eok rfl rfl rfl rfl ?_ ?_
      | refine Xn [0, 1, 4, 5, 6, 7, 8, 9, 10, 11, 18, 25, 41, 50, 67, 79, 94, 100] rfl ?_
      | refine XF (cG) rfl rfl rfl rfl ?_
      | refine XF (wakes_fn) rfl rfl rfl rfl ?_
      | refine Xs rfl rfl rfl ?_
      | (refine Xsplit rfl rfl (fun hc => ?_) (fun hc => ?_) <;> (fail_if_success (with_reducible first | exact absurd (hc : true = false) (by decide) | exact absurd (hc : false = true) (by decide))) <;> (try simp only [decide_eq_true_eq, decide_eq_false_iff_not, Bool.not_eq_true', Bool.not_eq_false', beq_iff_eq, beq_eq_false_iff_ne, bne_iff_ne, bne_eq_false_iff_eq, ne_eq, Int.not_lt, Int.not_le, ge_iff_le, gt_iff_lt] at hc) <;> (try (exfalso; omega))))
     | ((with_reducible refine gWd ?_); first
      | (refine Wd_isMv rfl ?_; refine Ymv eok rfl rfl (fun _ => rfl) rfl rfl ?_)
      | refine Yp eok rfl rfl (fun _ => rfl) rfl rfl ?_ ?_
      | refine Yq rfl rfl rfl rfl rfl ?_ ?_
      | refine Ys rfl rfl rfl rfl ?_
      | refine YF (cG) rfl rfl rfl rfl rfl ?_
      | refine YF (wakes_fn) rfl rfl rfl rfl rfl ?_
      | refine Ya eok rfl rfl rfl rfl rfl rfl ?_ ?_
      | refine Yw eok rfl rfl rfl rfl rfl ?_ ?_
      | refine Yn [0, 1, 4, 5, 6, 7, 8, 9, 10, 11, 18, 25, 41, 50, 67, 79, 94, 100] [] mixed eok (by kernel_rfl) True.intro rfl ?_
      | (refine Ysplit rfl rfl (fun hc => ?_) (fun hc => ?_) <;> (fail_if_success (with_reducible first | exact absurd (hc : true = false) (by decide) | exact absurd (hc : false = true) (by decide))) <;> (try simp only [decide_eq_true_eq, decide_eq_false_iff_not, Bool.not_eq_true', Bool.not_eq_false', beq_iff_eq, beq_eq_false_iff_ne, bne_iff_ne, bne_eq_false_iff_eq, ne_eq, Int.not_lt, Int.not_le, ge_iff_le, gt_iff_lt] at hc) <;> (try (exfalso; omega))))
     | refine W_seq ?_
     | refine W_region ?_
     | refine W_any T.get ?_
     | refine W_skip ?_
     | refine W_ret ?_
     | refine W_block ?_
     | refine W_exit ?_
     | refine W_cond_t rfl ?_
     | refine W_cond_f rfl ?_
     | (refine W_cond rfl (fun hc => ?_) (fun hc => ?_) <;> (try simp only [decide_eq_true_eq, decide_eq_false_iff_not, Bool.not_eq_true', Bool.not_eq_false', beq_iff_eq, beq_eq_false_iff_ne, bne_iff_ne, bne_eq_false_iff_eq, ne_eq, Int.not_lt, Int.not_le, ge_iff_le, gt_iff_lt] at hc) <;> (try (exfalso; omega))))
    refine ⟨_, _, rfl, rfl, ?_⟩; simp [Frz_tup, Frz_ag, Frzs_cons, Frzs_nil, Frz_d, Frz_e0, Frz_sl, sln, isSl, slOk]
  have hl : l.length ≤ 40 := by
    simp only [greatI, Bool.or_eq_false_iff, decide_eq_false_iff_not] at hg; omega
  have cK := Keys_fn l (by omega)
  obtain ⟨k1, k2⟩ := keysB_spec (l.map Item.key)
  have hsum : manyT (keysT l) l = l.length := many_all (lt_nodup k1) fun x hx => (k2 x.key).2 (List.mem_map_of_mem hx)
  have hkl : (keysT l).length ≤ 40 := by
    have : (keysT l).length ≤ (l.map Item.key).length := Nat.le_trans (compact_len _) (by rw [sortB_len]; exact Nat.le_refl _)
    rw [List.length_map] at this; omega
  have cO := Of_fn key l (by omega)
  have hkey : (keysT l).any (fun y => y == key) = decide ((ofK key l).length > 0) := by
    by_cases hm : key ∈ keysT l
    · have h2 := (k2 key).1 hm
      rw [List.any_eq_true.2 ⟨key, hm, by simp⟩]
      obtain ⟨x, hx, e⟩ := List.mem_map.1 h2
      exact (decide_eq_true (List.length_pos_of_mem (List.mem_filter.2 ⟨hx, by simp [e]⟩))).symm
    · have h2 : ¬ key ∈ l.map Item.key := fun h => hm ((k2 key).2 h)
      rw [show (keysT l).any (fun y => y == key) = false by rw [List.any_eq_false]; intro y hy h; rw [beq_iff_eq] at h; exact hm (h ▸ hy)]
      refine (decide_eq_false ?_).symm
      intro h
      obtain ⟨x, hx⟩ := List.exists_mem_of_length_pos h
      obtain ⟨h3, h4⟩ := List.mem_filter.1 hx
      exact h2 (List.mem_map.2 ⟨x, h3, by simpa using h4⟩)
  change (keysT l).Pairwise (· < ·) at k1
  change ∀ x, x ∈ keysT l ↔ x ∈ l.map Item.key at k2
  generalize keysT l = ks at *
  have nS := True.intro
  repeat' (first
   | ((with_reducible refine sg ?_); first
    | with_reducible rfl
    | ((with_reducible refine fitG ?_); first | kernel_rfl | rfl | (simp [fitT, fitF, nS]; done))
    | with_reducible refine andT ?_ ?_
    | with_reducible exact Nat.beq_refl _
    | with_reducible exact fitsI_u8 _
    | ((with_reducible refine decide_eq_true ?_); first | omega | (simp only [SZl, nS]; omega))
    | decide
    | (simp [SZl, slc, allOneD, D.one, allOne, AV.one, nS]; done)
    | (simp [SZl, nS]; omega))
   | ((with_reducible refine gWl ?_); first
    | (refine Wl_isMv rfl ?_; refine Xmv eok rfl rfl rfl rfl ?_)
    | refine Xq eok rfl rfl rfl rfl ?_ ?_
    | refine Xn [0, 1, 4, 5, 6, 7, 8, 9, 10, 11, 18, 25, 41, 50, 67, 79, 94, 100] rfl ?_
    | refine XF (cG) rfl rfl rfl rfl ?_
    | refine XF (cK) rfl rfl rfl rfl ?_
    | refine Xs rfl rfl rfl ?_
    | (refine Xsplit rfl rfl (fun hc => ?_) (fun hc => ?_) <;> (fail_if_success (with_reducible first | exact absurd (hc : true = false) (by decide) | exact absurd (hc : false = true) (by decide))) <;> (try simp only [decide_eq_true_eq, decide_eq_false_iff_not, Bool.not_eq_true', Bool.not_eq_false', beq_iff_eq, beq_eq_false_iff_ne, bne_iff_ne, bne_eq_false_iff_eq, ne_eq, Int.not_lt, Int.not_le, ge_iff_le, gt_iff_lt] at hc) <;> (try (exfalso; omega))))
   | ((with_reducible refine gWd ?_); first
    | (refine Wd_isMv rfl ?_; refine Ymv eok rfl rfl (fun _ => rfl) rfl rfl ?_)
    | refine Yp eok rfl rfl (fun _ => rfl) rfl rfl ?_ ?_
    | refine Yq rfl rfl rfl rfl rfl ?_ ?_
    | refine Ys rfl rfl rfl rfl ?_
    | refine YF (cG) rfl rfl rfl rfl rfl ?_
    | refine YF (cK) rfl rfl rfl rfl rfl ?_
    | refine Ya eok rfl rfl rfl rfl rfl rfl ?_ ?_
    | refine Yw eok rfl rfl rfl rfl rfl ?_ ?_
    | refine Yn [0, 1, 4, 5, 6, 7, 8, 9, 10, 11, 18, 25, 41, 50, 67, 79, 94, 100] [] mixed eok (by kernel_rfl) True.intro rfl ?_
    | (refine Ysplit rfl rfl (fun hc => ?_) (fun hc => ?_) <;> (fail_if_success (with_reducible first | exact absurd (hc : true = false) (by decide) | exact absurd (hc : false = true) (by decide))) <;> (try simp only [decide_eq_true_eq, decide_eq_false_iff_not, Bool.not_eq_true', Bool.not_eq_false', beq_iff_eq, beq_eq_false_iff_ne, bne_iff_ne, bne_eq_false_iff_eq, ne_eq, Int.not_lt, Int.not_le, ge_iff_le, gt_iff_lt] at hc) <;> (try (exfalso; omega))))
   | refine W_seq ?_
   | refine W_region ?_
   | refine W_any T.get ?_
   | refine W_skip ?_
   | refine W_ret ?_
   | refine W_block ?_
   | refine W_exit ?_
   | refine W_cond_t rfl ?_
   | refine W_cond_f rfl ?_
   | (refine W_cond rfl (fun hc => ?_) (fun hc => ?_) <;> (try simp only [decide_eq_true_eq, decide_eq_false_iff_not, Bool.not_eq_true', Bool.not_eq_false', beq_iff_eq, beq_eq_false_iff_ne, bne_iff_ne, bne_eq_false_iff_eq, ne_eq, Int.not_lt, Int.not_le, ge_iff_le, gt_iff_lt] at hc) <;> (try (exfalso; omega))))
  refine W_loopI (fun i => i ≤ ks.length) (fun i : Nat => ⟨[(0, .d (itemsD l)), (1, .d (.s key)), (4, .d (.b false)), (5, .d (strsD ks)), (6, .d (.i .i64 (manyT (ks.take i) l))), (7, .d (.b ((ks.take i).any fun y => y == key))), (8, .d (.i .i64 i))], [], 117⟩) (fun i => ks.length - i) 0 (Nat.zero_le _) ?_ (Nat.le_refl _) ?_
  · exact TSub.cut rfl (by repeat' (first | exact True.intro | refine And.intro (by (first | rfl | ((with_reducible_and_instances refine congrArg (fun z => some (AV.d (D.i _ z))) ?_); omega) | (refine congrArg (fun z => some (AV.d (D.i _ z))) (?_ : (_ : Int) = _); omega) | (refine congrArg some ?_; simp only [List.take_zero, List.any_nil]; done) | (refine congrArg some ?_; simp [List.take_zero, List.any_nil]; done))) ?_)) (by repeat' (first | exact True.intro | refine And.intro (Or.inr rfl) ?_ | refine And.intro (Or.inl ⟨rfl, rfl⟩) ?_ | refine And.intro (Or.inr (by simp only [List.take_zero, List.any_nil])) ?_ | refine And.intro (Or.inr (by simp [List.take_zero, List.any_nil])) ?_)) (by first | rfl | (simp (decide := true) [heapOk, Blk.ok, AV.oks, AV.ok, hk]; done)) rfl
  intro i hi
  by_cases hil : i < ks.length
  · obtain ⟨y, hy⟩ := get_of hil
    have hn := many_succ (l := l) hy
    have hle := many_le ks l (i + 1)
    have ha : (ks.take (i + 1)).any (fun y => y == key) = ((ks.take i).any (fun y => y == key) || (y == key)) := by rw [take_succ_of hy, List.any_append]; simp
    have cY := Of_fn y l (by omega)
    have hpos : 0 < (ofK y l).length := by
      obtain ⟨x, hx, e⟩ := List.mem_map.1 ((k2 y).1 (List.mem_of_getElem? hy))
      exact List.length_pos_of_mem (List.mem_filter.2 ⟨hx, by simp [e]⟩)
    have hle2 := ofK_len y l
    generalize (ks.take i).any (fun y => y == key) = th at *
    generalize manyT (ks.take i) l = mn at *
    have hof : ∀ j, j ≤ l.length → (ofK y (l.take j)).length ≤ (ofK y l).length := by
      intro j hj
      have : ofK y l = ofK y (l.take j) ++ ofK y (l.drop j) := by
        unfold ofK; rw [← List.filter_append, List.take_append_drop]
      rw [this, List.length_append]; omega
    have f2 := eq_false' (show ((ofK y l).length : Int) ≠ 0 by omega)
    by_cases hi0 : i = 0
    · subst hi0
      cases th with
      | true =>
        have nS := f2
        repeat' (first
         | ((with_reducible refine sg ?_); first
          | with_reducible rfl
          | ((with_reducible refine fitG ?_); first | kernel_rfl | rfl | (simp [fitT, fitF, nS]; done))
          | with_reducible refine andT ?_ ?_
          | with_reducible exact Nat.beq_refl _
          | with_reducible exact fitsI_u8 _
          | ((with_reducible refine decide_eq_true ?_); first | omega | (simp only [SZl, nS]; omega))
          | decide
          | (simp [SZl, slc, allOneD, D.one, allOne, AV.one, nS]; done)
          | (simp [SZl, nS]; omega))
         | ((with_reducible refine gWl ?_); first
          | (refine Wl_isMv rfl ?_; refine Xmv eok rfl rfl rfl rfl ?_)
          | (refine Wl_isIx rfl ?_; refine Xix eok rfl rfl rfl rfl rfl (Int.natCast_nonneg _) (ix_map hy) ?_)
          | refine Xq eok rfl rfl rfl rfl ?_ ?_
          | refine Xn [0, 1, 4, 5, 6, 7, 8, 9, 10, 11, 18, 25, 41, 50, 67, 79, 94, 100] rfl ?_
          | refine XF (cY) rfl rfl rfl rfl ?_
          | refine Xs rfl rfl rfl ?_
          | (refine Xsplit rfl rfl (fun hc => ?_) (fun hc => ?_) <;> (fail_if_success (with_reducible first | exact absurd (hc : true = false) (by decide) | exact absurd (hc : false = true) (by decide))) <;> (try simp only [decide_eq_true_eq, decide_eq_false_iff_not, Bool.not_eq_true', Bool.not_eq_false', beq_iff_eq, beq_eq_false_iff_ne, bne_iff_ne, bne_eq_false_iff_eq, ne_eq, Int.not_lt, Int.not_le, ge_iff_le, gt_iff_lt] at hc) <;> (try (exfalso; omega))))
         | ((with_reducible refine gWd ?_); first
          | (refine Wd_isMv rfl ?_; refine Ymv eok rfl rfl (fun _ => rfl) rfl rfl ?_)
          | (refine Wd_isIx rfl ?_; refine Yix eok rfl rfl (fun _ => rfl) rfl rfl rfl (Int.natCast_nonneg _) (ix_map hy) ?_)
          | refine Yp eok rfl rfl (fun _ => rfl) rfl rfl ?_ ?_
          | refine Yq rfl rfl rfl rfl rfl ?_ ?_
          | refine Ys rfl rfl rfl rfl ?_
          | refine YF (cY) rfl rfl rfl rfl rfl ?_
          | refine Ya eok rfl rfl rfl rfl rfl rfl ?_ ?_
          | refine Yw eok rfl rfl rfl rfl rfl ?_ ?_
          | refine Yn [0, 1, 4, 5, 6, 7, 8, 9, 10, 11, 18, 25, 41, 50, 67, 79, 94, 100] [] mixed eok (by kernel_rfl) True.intro rfl ?_
          | (refine Ysplit rfl rfl (fun hc => ?_) (fun hc => ?_) <;> (fail_if_success (with_reducible first | exact absurd (hc : true = false) (by decide) | exact absurd (hc : false = true) (by decide))) <;> (try simp only [decide_eq_true_eq, decide_eq_false_iff_not, Bool.not_eq_true', Bool.not_eq_false', beq_iff_eq, beq_eq_false_iff_ne, bne_iff_ne, bne_eq_false_iff_eq, ne_eq, Int.not_lt, Int.not_le, ge_iff_le, gt_iff_lt] at hc) <;> (try (exfalso; omega))))
         | refine W_seq ?_
         | refine W_region ?_
         | refine W_any T.get ?_
         | refine W_skip ?_
         | refine W_ret ?_
         | refine W_block ?_
         | refine W_exit ?_
         | refine W_cond_t rfl ?_
         | refine W_cond_f rfl ?_
         | (refine W_cond rfl (fun hc => ?_) (fun hc => ?_) <;> (try simp only [decide_eq_true_eq, decide_eq_false_iff_not, Bool.not_eq_true', Bool.not_eq_false', beq_iff_eq, beq_eq_false_iff_ne, bne_iff_ne, bne_eq_false_iff_eq, ne_eq, Int.not_lt, Int.not_le, ge_iff_le, gt_iff_lt] at hc) <;> (try (exfalso; omega))))
        refine W_loopI (fun j => j ≤ l.length) (fun j : Nat => ⟨[(0, .d (itemsD l)), (1, .d (.s key)), (4, .d (.b false)), (5, .d (strsD ks)), (6, .d (.i .i64 ((mn : Int) + (ofK y l).length))), (7, .d (.b true)), (8, .d (.i .i64 (0 : Nat))), (9, .d (itemsD (ofK y l))), (10, .d (.i .i64 (ofK y (l.take j)).length)), (11, .d (.i .i64 j))], [], 117⟩) (fun j => l.length - j) 0 (Nat.zero_le _) ?_ (Nat.le_refl _) ?_
        · exact TSub.cut rfl (by repeat' (first | exact True.intro | refine And.intro (by (first | rfl | ((with_reducible_and_instances refine congrArg (fun z => some (AV.d (D.i _ z))) ?_); omega) | (refine congrArg (fun z => some (AV.d (D.i _ z))) (?_ : (_ : Int) = _); omega) | (refine congrArg some ?_; simp only [List.take_zero, ofK, List.filter_nil, List.length_nil]; done) | (refine congrArg some ?_; simp [List.take_zero, ofK, List.filter_nil, List.length_nil]; done))) ?_)) (by repeat' (first | exact True.intro | refine And.intro (Or.inr rfl) ?_ | refine And.intro (Or.inl ⟨rfl, rfl⟩) ?_ | refine And.intro (Or.inr (by simp only [List.take_zero, ofK, List.filter_nil, List.length_nil])) ?_ | refine And.intro (Or.inr (by simp [List.take_zero, ofK, List.filter_nil, List.length_nil])) ?_)) (by first | rfl | (simp (decide := true) [heapOk, Blk.ok, AV.oks, AV.ok, hk]; done)) rfl
        intro j hj
        have hoj := hof j hj
        by_cases hjl : j < l.length
        · obtain ⟨x, hx⟩ := get_of hjl
          cases hT : (x.key == y) with
          | true =>
            have hg2 := of_get hx hT
            have hin := ofK_in hx hT
            have hlt := (List.getElem?_eq_some_iff.1 hg2).1
            have hE := (item_eqX x x).trans (decide_eq_true rfl)
            have f3 : decide (((ofK y (l.take j)).length : Int) ≥ ((ofK y l).length : Int)) = false := decide_eq_false (by omega)
            have nS := And.intro hT (And.intro hE f3)
            repeat' (first
             | ((with_reducible refine sg ?_); first
              | with_reducible rfl
              | ((with_reducible refine fitG ?_); first | kernel_rfl | rfl | (simp [fitT, fitF, nS]; done))
              | with_reducible refine andT ?_ ?_
              | with_reducible exact Nat.beq_refl _
              | with_reducible exact fitsI_u8 _
              | ((with_reducible refine decide_eq_true ?_); first | omega | (simp only [SZl, nS]; omega))
              | decide
              | (simp [SZl, slc, allOneD, D.one, allOne, AV.one, nS]; done)
              | (simp [SZl, nS]; omega))
             | ((with_reducible refine gWl ?_); first
              | (refine Wl_isMv rfl ?_; refine Xmv eok rfl rfl rfl rfl ?_)
              | (refine Wl_isIx rfl ?_; refine Xix eok rfl rfl rfl rfl rfl (Int.natCast_nonneg _) (ix_map hx) ?_)
              | (refine Wl_isIx rfl ?_; refine Xix eok rfl rfl rfl rfl rfl (Int.natCast_nonneg _) (ix_map hg2) ?_)
              | (refine Wl_isIx rfl ?_; refine Xix eok rfl rfl rfl rfl rfl (Int.natCast_nonneg _) (ix_map hy) ?_)
              | refine Xq eok rfl rfl rfl rfl ?_ ?_
              | refine Xn [0, 1, 4, 5, 6, 7, 8, 9, 10, 11, 18, 25, 41, 50, 67, 79, 94, 100] rfl ?_
              | refine Xs rfl rfl rfl ?_
              | (refine Xsplit rfl rfl (fun hc => ?_) (fun hc => ?_) <;> (fail_if_success (with_reducible first | exact absurd (hc : true = false) (by decide) | exact absurd (hc : false = true) (by decide))) <;> (try simp only [decide_eq_true_eq, decide_eq_false_iff_not, Bool.not_eq_true', Bool.not_eq_false', beq_iff_eq, beq_eq_false_iff_ne, bne_iff_ne, bne_eq_false_iff_eq, ne_eq, Int.not_lt, Int.not_le, ge_iff_le, gt_iff_lt] at hc) <;> (try (exfalso; omega))))
             | ((with_reducible refine gWd ?_); first
              | (refine Wd_isMv rfl ?_; refine Ymv eok rfl rfl (fun _ => rfl) rfl rfl ?_)
              | (refine Wd_isIx rfl ?_; refine Yix eok rfl rfl (fun _ => rfl) rfl rfl rfl (Int.natCast_nonneg _) (ix_map hx) ?_)
              | (refine Wd_isIx rfl ?_; refine Yix eok rfl rfl (fun _ => rfl) rfl rfl rfl (Int.natCast_nonneg _) (ix_map hg2) ?_)
              | (refine Wd_isIx rfl ?_; refine Yix eok rfl rfl (fun _ => rfl) rfl rfl rfl (Int.natCast_nonneg _) (ix_map hy) ?_)
              | refine Yp eok rfl rfl (fun _ => rfl) rfl rfl ?_ ?_
              | refine Yq rfl rfl rfl rfl rfl ?_ ?_
              | refine Ys rfl rfl rfl rfl ?_
              | refine Ya eok rfl rfl rfl rfl rfl rfl ?_ ?_
              | refine Yw eok rfl rfl rfl rfl rfl ?_ ?_
              | refine Yn [0, 1, 4, 5, 6, 7, 8, 9, 10, 11, 18, 25, 41, 50, 67, 79, 94, 100] [] mixed eok (by kernel_rfl) True.intro rfl ?_
              | (refine Ysplit rfl rfl (fun hc => ?_) (fun hc => ?_) <;> (fail_if_success (with_reducible first | exact absurd (hc : true = false) (by decide) | exact absurd (hc : false = true) (by decide))) <;> (try simp only [decide_eq_true_eq, decide_eq_false_iff_not, Bool.not_eq_true', Bool.not_eq_false', beq_iff_eq, beq_eq_false_iff_ne, bne_iff_ne, bne_eq_false_iff_eq, ne_eq, Int.not_lt, Int.not_le, ge_iff_le, gt_iff_lt] at hc) <;> (try (exfalso; omega))))
             | refine W_seq ?_
             | refine W_region ?_
             | refine W_any T.get ?_
             | refine W_skip ?_
             | refine W_ret ?_
             | refine W_block ?_
             | refine W_exit ?_
             | refine W_cond_t rfl ?_
             | refine W_cond_f rfl ?_
             | (refine W_cond rfl (fun hc => ?_) (fun hc => ?_) <;> (try simp only [decide_eq_true_eq, decide_eq_false_iff_not, Bool.not_eq_true', Bool.not_eq_false', beq_iff_eq, beq_eq_false_iff_ne, bne_iff_ne, bne_eq_false_iff_eq, ne_eq, Int.not_lt, Int.not_le, ge_iff_le, gt_iff_lt] at hc) <;> (try (exfalso; omega))))
            refine ⟨j + 1, hjl, by omega, Nat.le_refl _, ?_⟩
            exact TSub.cut rfl (by repeat' (first | exact True.intro | refine And.intro (by (first | rfl | ((with_reducible_and_instances refine congrArg (fun z => some (AV.d (D.i _ z))) ?_); omega) | (refine congrArg (fun z => some (AV.d (D.i _ z))) (?_ : (_ : Int) = _); omega) | (refine congrArg some ?_; simp only [hin, List.length_append, List.length_cons, List.length_nil, Int.natCast_add]; done) | (refine congrArg some ?_; simp [hin, List.length_append, List.length_cons, List.length_nil, Int.natCast_add]; done))) ?_)) (by repeat' (first | exact True.intro | refine And.intro (Or.inr rfl) ?_ | refine And.intro (Or.inl ⟨rfl, rfl⟩) ?_ | refine And.intro (Or.inr (by simp only [hin, List.length_append, List.length_cons, List.length_nil, Int.natCast_add])) ?_ | refine And.intro (Or.inr (by simp [hin, List.length_append, List.length_cons, List.length_nil, Int.natCast_add])) ?_)) (by first | rfl | (simp (decide := true) [heapOk, Blk.ok, AV.oks, AV.ok, hk]; done)) rfl
          | false =>
            have hin := ofK_out hx hT
            have nS := hT
            repeat' (first
             | ((with_reducible refine sg ?_); first
              | with_reducible rfl
              | ((with_reducible refine fitG ?_); first | kernel_rfl | rfl | (simp [fitT, fitF, nS]; done))
              | with_reducible refine andT ?_ ?_
              | with_reducible exact Nat.beq_refl _
              | with_reducible exact fitsI_u8 _
              | ((with_reducible refine decide_eq_true ?_); first | omega | (simp only [SZl, nS]; omega))
              | decide
              | (simp [SZl, slc, allOneD, D.one, allOne, AV.one, nS]; done)
              | (simp [SZl, nS]; omega))
             | ((with_reducible refine gWl ?_); first
              | (refine Wl_isMv rfl ?_; refine Xmv eok rfl rfl rfl rfl ?_)
              | (refine Wl_isIx rfl ?_; refine Xix eok rfl rfl rfl rfl rfl (Int.natCast_nonneg _) (ix_map hx) ?_)
              | (refine Wl_isIx rfl ?_; refine Xix eok rfl rfl rfl rfl rfl (Int.natCast_nonneg _) (ix_map hy) ?_)
              | refine Xq eok rfl rfl rfl rfl ?_ ?_
              | refine Xn [0, 1, 4, 5, 6, 7, 8, 9, 10, 11, 18, 25, 41, 50, 67, 79, 94, 100] rfl ?_
              | refine Xs rfl rfl rfl ?_
              | (refine Xsplit rfl rfl (fun hc => ?_) (fun hc => ?_) <;> (fail_if_success (with_reducible first | exact absurd (hc : true = false) (by decide) | exact absurd (hc : false = true) (by decide))) <;> (try simp only [decide_eq_true_eq, decide_eq_false_iff_not, Bool.not_eq_true', Bool.not_eq_false', beq_iff_eq, beq_eq_false_iff_ne, bne_iff_ne, bne_eq_false_iff_eq, ne_eq, Int.not_lt, Int.not_le, ge_iff_le, gt_iff_lt] at hc) <;> (try (exfalso; omega))))
             | ((with_reducible refine gWd ?_); first
              | (refine Wd_isMv rfl ?_; refine Ymv eok rfl rfl (fun _ => rfl) rfl rfl ?_)
              | (refine Wd_isIx rfl ?_; refine Yix eok rfl rfl (fun _ => rfl) rfl rfl rfl (Int.natCast_nonneg _) (ix_map hx) ?_)
              | (refine Wd_isIx rfl ?_; refine Yix eok rfl rfl (fun _ => rfl) rfl rfl rfl (Int.natCast_nonneg _) (ix_map hy) ?_)
              | refine Yp eok rfl rfl (fun _ => rfl) rfl rfl ?_ ?_
              | refine Yq rfl rfl rfl rfl rfl ?_ ?_
              | refine Ys rfl rfl rfl rfl ?_
              | refine Ya eok rfl rfl rfl rfl rfl rfl ?_ ?_
              | refine Yw eok rfl rfl rfl rfl rfl ?_ ?_
              | refine Yn [0, 1, 4, 5, 6, 7, 8, 9, 10, 11, 18, 25, 41, 50, 67, 79, 94, 100] [] mixed eok (by kernel_rfl) True.intro rfl ?_
              | (refine Ysplit rfl rfl (fun hc => ?_) (fun hc => ?_) <;> (fail_if_success (with_reducible first | exact absurd (hc : true = false) (by decide) | exact absurd (hc : false = true) (by decide))) <;> (try simp only [decide_eq_true_eq, decide_eq_false_iff_not, Bool.not_eq_true', Bool.not_eq_false', beq_iff_eq, beq_eq_false_iff_ne, bne_iff_ne, bne_eq_false_iff_eq, ne_eq, Int.not_lt, Int.not_le, ge_iff_le, gt_iff_lt] at hc) <;> (try (exfalso; omega))))
             | refine W_seq ?_
             | refine W_region ?_
             | refine W_any T.get ?_
             | refine W_skip ?_
             | refine W_ret ?_
             | refine W_block ?_
             | refine W_exit ?_
             | refine W_cond_t rfl ?_
             | refine W_cond_f rfl ?_
             | (refine W_cond rfl (fun hc => ?_) (fun hc => ?_) <;> (try simp only [decide_eq_true_eq, decide_eq_false_iff_not, Bool.not_eq_true', Bool.not_eq_false', beq_iff_eq, beq_eq_false_iff_ne, bne_iff_ne, bne_eq_false_iff_eq, ne_eq, Int.not_lt, Int.not_le, ge_iff_le, gt_iff_lt] at hc) <;> (try (exfalso; omega))))
            refine ⟨j + 1, hjl, by omega, Nat.le_refl _, ?_⟩
            exact TSub.cut rfl (by repeat' (first | exact True.intro | refine And.intro (by (first | rfl | ((with_reducible_and_instances refine congrArg (fun z => some (AV.d (D.i _ z))) ?_); omega) | (refine congrArg (fun z => some (AV.d (D.i _ z))) (?_ : (_ : Int) = _); omega) | (refine congrArg some ?_; simp only [hin]; done) | (refine congrArg some ?_; simp [hin]; done))) ?_)) (by repeat' (first | exact True.intro | refine And.intro (Or.inr rfl) ?_ | refine And.intro (Or.inl ⟨rfl, rfl⟩) ?_ | refine And.intro (Or.inr (by simp only [hin])) ?_ | refine And.intro (Or.inr (by simp [hin])) ?_)) (by first | rfl | (simp (decide := true) [heapOk, Blk.ok, AV.oks, AV.ok, hk]; done)) rfl
        · have e : j = l.length := by omega
          subst e
          rw [List.take_length]
          have nS := True.intro
          repeat' (first
           | ((with_reducible refine sg ?_); first
            | with_reducible rfl
            | ((with_reducible refine fitG ?_); first | kernel_rfl | rfl | (simp [fitT, fitF, nS]; done))
            | with_reducible refine andT ?_ ?_
            | with_reducible exact Nat.beq_refl _
            | with_reducible exact fitsI_u8 _
            | ((with_reducible refine decide_eq_true ?_); first | omega | (simp only [SZl, nS]; omega))
            | decide
            | (simp [SZl, slc, allOneD, D.one, allOne, AV.one, nS]; done)
            | (simp [SZl, nS]; omega))
           | ((with_reducible refine gWl ?_); first
            | (refine Wl_isMv rfl ?_; refine Xmv eok rfl rfl rfl rfl ?_)
            | refine Xq eok rfl rfl rfl rfl ?_ ?_
            | refine Xn [0, 1, 4, 5, 6, 7, 8, 9, 10, 11, 18, 25, 41, 50, 67, 79, 94, 100] rfl ?_
            | refine Xs rfl rfl rfl ?_
            | (refine Xsplit rfl rfl (fun hc => ?_) (fun hc => ?_) <;> (fail_if_success (with_reducible first | exact absurd (hc : true = false) (by decide) | exact absurd (hc : false = true) (by decide))) <;> (try simp only [decide_eq_true_eq, decide_eq_false_iff_not, Bool.not_eq_true', Bool.not_eq_false', beq_iff_eq, beq_eq_false_iff_ne, bne_iff_ne, bne_eq_false_iff_eq, ne_eq, Int.not_lt, Int.not_le, ge_iff_le, gt_iff_lt] at hc) <;> (try (exfalso; omega))))
           | ((with_reducible refine gWd ?_); first
            | (refine Wd_isMv rfl ?_; refine Ymv eok rfl rfl (fun _ => rfl) rfl rfl ?_)
            | refine Yp eok rfl rfl (fun _ => rfl) rfl rfl ?_ ?_
            | refine Yq rfl rfl rfl rfl rfl ?_ ?_
            | refine Ys rfl rfl rfl rfl ?_
            | refine Ya eok rfl rfl rfl rfl rfl rfl ?_ ?_
            | refine Yw eok rfl rfl rfl rfl rfl ?_ ?_
            | refine Yn [0, 1, 4, 5, 6, 7, 8, 9, 10, 11, 18, 25, 41, 50, 67, 79, 94, 100] [] mixed eok (by kernel_rfl) True.intro rfl ?_
            | (refine Ysplit rfl rfl (fun hc => ?_) (fun hc => ?_) <;> (fail_if_success (with_reducible first | exact absurd (hc : true = false) (by decide) | exact absurd (hc : false = true) (by decide))) <;> (try simp only [decide_eq_true_eq, decide_eq_false_iff_not, Bool.not_eq_true', Bool.not_eq_false', beq_iff_eq, beq_eq_false_iff_ne, bne_iff_ne, bne_eq_false_iff_eq, ne_eq, Int.not_lt, Int.not_le, ge_iff_le, gt_iff_lt] at hc) <;> (try (exfalso; omega))))
           | refine W_seq ?_
           | refine W_region ?_
           | refine W_any T.get ?_
           | refine W_skip ?_
           | refine W_ret ?_
           | refine W_block ?_
           | refine W_exit ?_
           | refine W_cond_t rfl ?_
           | refine W_cond_f rfl ?_
           | (refine W_cond rfl (fun hc => ?_) (fun hc => ?_) <;> (try simp only [decide_eq_true_eq, decide_eq_false_iff_not, Bool.not_eq_true', Bool.not_eq_false', beq_iff_eq, beq_eq_false_iff_ne, bne_iff_ne, bne_eq_false_iff_eq, ne_eq, Int.not_lt, Int.not_le, ge_iff_le, gt_iff_lt] at hc) <;> (try (exfalso; omega))))
          refine ⟨0 + 1, hil, by omega, Nat.le_refl _, ?_⟩
          exact TSub.cut rfl (by repeat' (first | exact True.intro | refine And.intro (by (first | rfl | ((with_reducible_and_instances refine congrArg (fun z => some (AV.d (D.i _ z))) ?_); omega) | (refine congrArg (fun z => some (AV.d (D.i _ z))) (?_ : (_ : Int) = _); omega) | (refine congrArg some ?_; simp only [ha, hn, Bool.true_or, Int.natCast_add]; done) | (refine congrArg some ?_; simp [ha, hn, Bool.true_or, Int.natCast_add]; done))) ?_)) (by repeat' (first | exact True.intro | refine And.intro (Or.inr rfl) ?_ | refine And.intro (Or.inl ⟨rfl, rfl⟩) ?_ | refine And.intro (Or.inr (by simp only [ha, hn, Bool.true_or, Int.natCast_add])) ?_ | refine And.intro (Or.inr (by simp [ha, hn, Bool.true_or, Int.natCast_add])) ?_)) (by first | rfl | (simp (decide := true) [heapOk, Blk.ok, AV.oks, AV.ok, hk]; done)) rfl
      | false =>
        have nS := f2
        repeat' (first
         | ((with_reducible refine sg ?_); first
          | with_reducible rfl
          | ((with_reducible refine fitG ?_); first | kernel_rfl | rfl | (simp [fitT, fitF, nS]; done))
          | with_reducible refine andT ?_ ?_
          | with_reducible exact Nat.beq_refl _
          | with_reducible exact fitsI_u8 _
          | ((with_reducible refine decide_eq_true ?_); first | omega | (simp only [SZl, nS]; omega))
          | decide
          | (simp [SZl, slc, allOneD, D.one, allOne, AV.one, nS]; done)
          | (simp [SZl, nS]; omega))
         | ((with_reducible refine gWl ?_); first
          | (refine Wl_isMv rfl ?_; refine Xmv eok rfl rfl rfl rfl ?_)
          | (refine Wl_isIx rfl ?_; refine Xix eok rfl rfl rfl rfl rfl (Int.natCast_nonneg _) (ix_map hy) ?_)
          | refine Xq eok rfl rfl rfl rfl ?_ ?_
          | refine Xn [0, 1, 4, 5, 6, 7, 8, 9, 10, 11, 18, 25, 41, 50, 67, 79, 94, 100] rfl ?_
          | refine XF (cY) rfl rfl rfl rfl ?_
          | refine Xs rfl rfl rfl ?_
          | (refine Xsplit rfl rfl (fun hc => ?_) (fun hc => ?_) <;> (fail_if_success (with_reducible first | exact absurd (hc : true = false) (by decide) | exact absurd (hc : false = true) (by decide))) <;> (try simp only [decide_eq_true_eq, decide_eq_false_iff_not, Bool.not_eq_true', Bool.not_eq_false', beq_iff_eq, beq_eq_false_iff_ne, bne_iff_ne, bne_eq_false_iff_eq, ne_eq, Int.not_lt, Int.not_le, ge_iff_le, gt_iff_lt] at hc) <;> (try (exfalso; omega))))
         | ((with_reducible refine gWd ?_); first
          | (refine Wd_isMv rfl ?_; refine Ymv eok rfl rfl (fun _ => rfl) rfl rfl ?_)
          | (refine Wd_isIx rfl ?_; refine Yix eok rfl rfl (fun _ => rfl) rfl rfl rfl (Int.natCast_nonneg _) (ix_map hy) ?_)
          | refine Yp eok rfl rfl (fun _ => rfl) rfl rfl ?_ ?_
          | refine Yq rfl rfl rfl rfl rfl ?_ ?_
          | refine Ys rfl rfl rfl rfl ?_
          | refine YF (cY) rfl rfl rfl rfl rfl ?_
          | refine Ya eok rfl rfl rfl rfl rfl rfl ?_ ?_
          | refine Yw eok rfl rfl rfl rfl rfl ?_ ?_
          | refine Yn [0, 1, 4, 5, 6, 7, 8, 9, 10, 11, 18, 25, 41, 50, 67, 79, 94, 100] [] mixed eok (by kernel_rfl) True.intro rfl ?_
          | (refine Ysplit rfl rfl (fun hc => ?_) (fun hc => ?_) <;> (fail_if_success (with_reducible first | exact absurd (hc : true = false) (by decide) | exact absurd (hc : false = true) (by decide))) <;> (try simp only [decide_eq_true_eq, decide_eq_false_iff_not, Bool.not_eq_true', Bool.not_eq_false', beq_iff_eq, beq_eq_false_iff_ne, bne_iff_ne, bne_eq_false_iff_eq, ne_eq, Int.not_lt, Int.not_le, ge_iff_le, gt_iff_lt] at hc) <;> (try (exfalso; omega))))
         | refine W_seq ?_
         | refine W_region ?_
         | refine W_any T.get ?_
         | refine W_skip ?_
         | refine W_ret ?_
         | refine W_block ?_
         | refine W_exit ?_
         | refine W_cond_t rfl ?_
         | refine W_cond_f rfl ?_
         | (refine W_cond rfl (fun hc => ?_) (fun hc => ?_) <;> (try simp only [decide_eq_true_eq, decide_eq_false_iff_not, Bool.not_eq_true', Bool.not_eq_false', beq_iff_eq, beq_eq_false_iff_ne, bne_iff_ne, bne_eq_false_iff_eq, ne_eq, Int.not_lt, Int.not_le, ge_iff_le, gt_iff_lt] at hc) <;> (try (exfalso; omega))))
        refine W_loopI (fun j => j ≤ l.length) (fun j : Nat => ⟨[(0, .d (itemsD l)), (1, .d (.s key)), (4, .d (.b false)), (5, .d (strsD ks)), (6, .d (.i .i64 ((mn : Int) + (ofK y l).length))), (7, .d (.b (y == key))), (8, .d (.i .i64 (0 : Nat))), (9, .d (itemsD (ofK y l))), (10, .d (.i .i64 (ofK y (l.take j)).length)), (11, .d (.i .i64 j))], [], 117⟩) (fun j => l.length - j) 0 (Nat.zero_le _) ?_ (Nat.le_refl _) ?_
        · exact TSub.cut rfl (by repeat' (first | exact True.intro | refine And.intro (by (first | rfl | ((with_reducible_and_instances refine congrArg (fun z => some (AV.d (D.i _ z))) ?_); omega) | (refine congrArg (fun z => some (AV.d (D.i _ z))) (?_ : (_ : Int) = _); omega) | (refine congrArg some ?_; simp only [List.take_zero, ofK, List.filter_nil, List.length_nil]; done) | (refine congrArg some ?_; simp [List.take_zero, ofK, List.filter_nil, List.length_nil]; done))) ?_)) (by repeat' (first | exact True.intro | refine And.intro (Or.inr rfl) ?_ | refine And.intro (Or.inl ⟨rfl, rfl⟩) ?_ | refine And.intro (Or.inr (by simp only [List.take_zero, ofK, List.filter_nil, List.length_nil])) ?_ | refine And.intro (Or.inr (by simp [List.take_zero, ofK, List.filter_nil, List.length_nil])) ?_)) (by first | rfl | (simp (decide := true) [heapOk, Blk.ok, AV.oks, AV.ok, hk]; done)) rfl
        intro j hj
        have hoj := hof j hj
        by_cases hjl : j < l.length
        · obtain ⟨x, hx⟩ := get_of hjl
          cases hT : (x.key == y) with
          | true =>
            have hg2 := of_get hx hT
            have hin := ofK_in hx hT
            have hlt := (List.getElem?_eq_some_iff.1 hg2).1
            have hE := (item_eqX x x).trans (decide_eq_true rfl)
            have f3 : decide (((ofK y (l.take j)).length : Int) ≥ ((ofK y l).length : Int)) = false := decide_eq_false (by omega)
            have nS := And.intro hT (And.intro hE f3)
            repeat' (first
             | ((with_reducible refine sg ?_); first
              | with_reducible rfl
              | ((with_reducible refine fitG ?_); first | kernel_rfl | rfl | (simp [fitT, fitF, nS]; done))
              | with_reducible refine andT ?_ ?_
              | with_reducible exact Nat.beq_refl _
              | with_reducible exact fitsI_u8 _
              | ((with_reducible refine decide_eq_true ?_); first | omega | (simp only [SZl, nS]; omega))
              | decide
              | (simp [SZl, slc, allOneD, D.one, allOne, AV.one, nS]; done)
              | (simp [SZl, nS]; omega))
             | ((with_reducible refine gWl ?_); first
              | (refine Wl_isMv rfl ?_; refine Xmv eok rfl rfl rfl rfl ?_)
              | (refine Wl_isIx rfl ?_; refine Xix eok rfl rfl rfl rfl rfl (Int.natCast_nonneg _) (ix_map hx) ?_)
              | (refine Wl_isIx rfl ?_; refine Xix eok rfl rfl rfl rfl rfl (Int.natCast_nonneg _) (ix_map hg2) ?_)
              | (refine Wl_isIx rfl ?_; refine Xix eok rfl rfl rfl rfl rfl (Int.natCast_nonneg _) (ix_map hy) ?_)
              | refine Xq eok rfl rfl rfl rfl ?_ ?_
              | refine Xn [0, 1, 4, 5, 6, 7, 8, 9, 10, 11, 18, 25, 41, 50, 67, 79, 94, 100] rfl ?_
              | refine Xs rfl rfl rfl ?_
              | (refine Xsplit rfl rfl (fun hc => ?_) (fun hc => ?_) <;> (fail_if_success (with_reducible first | exact absurd (hc : true = false) (by decide) | exact absurd (hc : false = true) (by decide))) <;> (try simp only [decide_eq_true_eq, decide_eq_false_iff_not, Bool.not_eq_true', Bool.not_eq_false', beq_iff_eq, beq_eq_false_iff_ne, bne_iff_ne, bne_eq_false_iff_eq, ne_eq, Int.not_lt, Int.not_le, ge_iff_le, gt_iff_lt] at hc) <;> (try (exfalso; omega))))
             | ((with_reducible refine gWd ?_); first
              | (refine Wd_isMv rfl ?_; refine Ymv eok rfl rfl (fun _ => rfl) rfl rfl ?_)
              | (refine Wd_isIx rfl ?_; refine Yix eok rfl rfl (fun _ => rfl) rfl rfl rfl (Int.natCast_nonneg _) (ix_map hx) ?_)
              | (refine Wd_isIx rfl ?_; refine Yix eok rfl rfl (fun _ => rfl) rfl rfl rfl (Int.natCast_nonneg _) (ix_map hg2) ?_)
              | (refine Wd_isIx rfl ?_; refine Yix eok rfl rfl (fun _ => rfl) rfl rfl rfl (Int.natCast_nonneg _) (ix_map hy) ?_)
              | refine Yp eok rfl rfl (fun _ => rfl) rfl rfl ?_ ?_
              | refine Yq rfl rfl rfl rfl rfl ?_ ?_
              | refine Ys rfl rfl rfl rfl ?_
              | refine Ya eok rfl rfl rfl rfl rfl rfl ?_ ?_
              | refine Yw eok rfl rfl rfl rfl rfl ?_ ?_
              | refine Yn [0, 1, 4, 5, 6, 7, 8, 9, 10, 11, 18, 25, 41, 50, 67, 79, 94, 100] [] mixed eok (by kernel_rfl) True.intro rfl ?_
              | (refine Ysplit rfl rfl (fun hc => ?_) (fun hc => ?_) <;> (fail_if_success (with_reducible first | exact absurd (hc : true = false) (by decide) | exact absurd (hc : false = true) (by decide))) <;> (try simp only [decide_eq_true_eq, decide_eq_false_iff_not, Bool.not_eq_true', Bool.not_eq_false', beq_iff_eq, beq_eq_false_iff_ne, bne_iff_ne, bne_eq_false_iff_eq, ne_eq, Int.not_lt, Int.not_le, ge_iff_le, gt_iff_lt] at hc) <;> (try (exfalso; omega))))
             | refine W_seq ?_
             | refine W_region ?_
             | refine W_any T.get ?_
             | refine W_skip ?_
             | refine W_ret ?_
             | refine W_block ?_
             | refine W_exit ?_
             | refine W_cond_t rfl ?_
             | refine W_cond_f rfl ?_
             | (refine W_cond rfl (fun hc => ?_) (fun hc => ?_) <;> (try simp only [decide_eq_true_eq, decide_eq_false_iff_not, Bool.not_eq_true', Bool.not_eq_false', beq_iff_eq, beq_eq_false_iff_ne, bne_iff_ne, bne_eq_false_iff_eq, ne_eq, Int.not_lt, Int.not_le, ge_iff_le, gt_iff_lt] at hc) <;> (try (exfalso; omega))))
            refine ⟨j + 1, hjl, by omega, Nat.le_refl _, ?_⟩
            exact TSub.cut rfl (by repeat' (first | exact True.intro | refine And.intro (by (first | rfl | ((with_reducible_and_instances refine congrArg (fun z => some (AV.d (D.i _ z))) ?_); omega) | (refine congrArg (fun z => some (AV.d (D.i _ z))) (?_ : (_ : Int) = _); omega) | (refine congrArg some ?_; simp only [hin, List.length_append, List.length_cons, List.length_nil, Int.natCast_add]; done) | (refine congrArg some ?_; simp [hin, List.length_append, List.length_cons, List.length_nil, Int.natCast_add]; done))) ?_)) (by repeat' (first | exact True.intro | refine And.intro (Or.inr rfl) ?_ | refine And.intro (Or.inl ⟨rfl, rfl⟩) ?_ | refine And.intro (Or.inr (by simp only [hin, List.length_append, List.length_cons, List.length_nil, Int.natCast_add])) ?_ | refine And.intro (Or.inr (by simp [hin, List.length_append, List.length_cons, List.length_nil, Int.natCast_add])) ?_)) (by first | rfl | (simp (decide := true) [heapOk, Blk.ok, AV.oks, AV.ok, hk]; done)) rfl
          | false =>
            have hin := ofK_out hx hT
            have nS := hT
            repeat' (first
             | ((with_reducible refine sg ?_); first
              | with_reducible rfl
              | ((with_reducible refine fitG ?_); first | kernel_rfl | rfl | (simp [fitT, fitF, nS]; done))
              | with_reducible refine andT ?_ ?_
              | with_reducible exact Nat.beq_refl _
              | with_reducible exact fitsI_u8 _
              | ((with_reducible refine decide_eq_true ?_); first | omega | (simp only [SZl, nS]; omega))
              | decide
              | (simp [SZl, slc, allOneD, D.one, allOne, AV.one, nS]; done)
              | (simp [SZl, nS]; omega))
             | ((with_reducible refine gWl ?_); first
              | (refine Wl_isMv rfl ?_; refine Xmv eok rfl rfl rfl rfl ?_)
              | (refine Wl_isIx rfl ?_; refine Xix eok rfl rfl rfl rfl rfl (Int.natCast_nonneg _) (ix_map hx) ?_)
              | (refine Wl_isIx rfl ?_; refine Xix eok rfl rfl rfl rfl rfl (Int.natCast_nonneg _) (ix_map hy) ?_)
              | refine Xq eok rfl rfl rfl rfl ?_ ?_
              | refine Xn [0, 1, 4, 5, 6, 7, 8, 9, 10, 11, 18, 25, 41, 50, 67, 79, 94, 100] rfl ?_
              | refine Xs rfl rfl rfl ?_
              | (refine Xsplit rfl rfl (fun hc => ?_) (fun hc => ?_) <;> (fail_if_success (with_reducible first | exact absurd (hc : true = false) (by decide) | exact absurd (hc : false = true) (by decide))) <;> (try simp only [decide_eq_true_eq, decide_eq_false_iff_not, Bool.not_eq_true', Bool.not_eq_false', beq_iff_eq, beq_eq_false_iff_ne, bne_iff_ne, bne_eq_false_iff_eq, ne_eq, Int.not_lt, Int.not_le, ge_iff_le, gt_iff_lt] at hc) <;> (try (exfalso; omega))))
             | ((with_reducible refine gWd ?_); first
              | (refine Wd_isMv rfl ?_; refine Ymv eok rfl rfl (fun _ => rfl) rfl rfl ?_)
              | (refine Wd_isIx rfl ?_; refine Yix eok rfl rfl (fun _ => rfl) rfl rfl rfl (Int.natCast_nonneg _) (ix_map hx) ?_)
              | (refine Wd_isIx rfl ?_; refine Yix eok rfl rfl (fun _ => rfl) rfl rfl rfl (Int.natCast_nonneg _) (ix_map hy) ?_)
              | refine Yp eok rfl rfl (fun _ => rfl) rfl rfl ?_ ?_
              | refine Yq rfl rfl rfl rfl rfl ?_ ?_
              | refine Ys rfl rfl rfl rfl ?_
              | refine Ya eok rfl rfl rfl rfl rfl rfl ?_ ?_
              | refine Yw eok rfl rfl rfl rfl rfl ?_ ?_
              | refine Yn [0, 1, 4, 5, 6, 7, 8, 9, 10, 11, 18, 25, 41, 50, 67, 79, 94, 100] [] mixed eok (by kernel_rfl) True.intro rfl ?_
              | (refine Ysplit rfl rfl (fun hc => ?_) (fun hc => ?_) <;> (fail_if_success (with_reducible first | exact absurd (hc : true = false) (by decide) | exact absurd (hc : false = true) (by decide))) <;> (try simp only [decide_eq_true_eq, decide_eq_false_iff_not, Bool.not_eq_true', Bool.not_eq_false', beq_iff_eq, beq_eq_false_iff_ne, bne_iff_ne, bne_eq_false_iff_eq, ne_eq, Int.not_lt, Int.not_le, ge_iff_le, gt_iff_lt] at hc) <;> (try (exfalso; omega))))
             | refine W_seq ?_
             | refine W_region ?_
             | refine W_any T.get ?_
             | refine W_skip ?_
             | refine W_ret ?_
             | refine W_block ?_
             | refine W_exit ?_
             | refine W_cond_t rfl ?_
             | refine W_cond_f rfl ?_
             | (refine W_cond rfl (fun hc => ?_) (fun hc => ?_) <;> (try simp only [decide_eq_true_eq, decide_eq_false_iff_not, Bool.not_eq_true', Bool.not_eq_false', beq_iff_eq, beq_eq_false_iff_ne, bne_iff_ne, bne_eq_false_iff_eq, ne_eq, Int.not_lt, Int.not_le, ge_iff_le, gt_iff_lt] at hc) <;> (try (exfalso; omega))))
            refine ⟨j + 1, hjl, by omega, Nat.le_refl _, ?_⟩
            exact TSub.cut rfl (by repeat' (first | exact True.intro | refine And.intro (by (first | rfl | ((with_reducible_and_instances refine congrArg (fun z => some (AV.d (D.i _ z))) ?_); omega) | (refine congrArg (fun z => some (AV.d (D.i _ z))) (?_ : (_ : Int) = _); omega) | (refine congrArg some ?_; simp only [hin]; done) | (refine congrArg some ?_; simp [hin]; done))) ?_)) (by repeat' (first | exact True.intro | refine And.intro (Or.inr rfl) ?_ | refine And.intro (Or.inl ⟨rfl, rfl⟩) ?_ | refine And.intro (Or.inr (by simp only [hin])) ?_ | refine And.intro (Or.inr (by simp [hin])) ?_)) (by first | rfl | (simp (decide := true) [heapOk, Blk.ok, AV.oks, AV.ok, hk]; done)) rfl
        · have e : j = l.length := by omega
          subst e
          rw [List.take_length]
          have nS := True.intro
          repeat' (first
           | ((with_reducible refine sg ?_); first
            | with_reducible rfl
            | ((with_reducible refine fitG ?_); first | kernel_rfl | rfl | (simp [fitT, fitF, nS]; done))
            | with_reducible refine andT ?_ ?_
            | with_reducible exact Nat.beq_refl _
            | with_reducible exact fitsI_u8 _
            | ((with_reducible refine decide_eq_true ?_); first | omega | (simp only [SZl, nS]; omega))
            | decide
            | (simp [SZl, slc, allOneD, D.one, allOne, AV.one, nS]; done)
            | (simp [SZl, nS]; omega))
           | ((with_reducible refine gWl ?_); first
            | (refine Wl_isMv rfl ?_; refine Xmv eok rfl rfl rfl rfl ?_)
            | refine Xq eok rfl rfl rfl rfl ?_ ?_
            | refine Xn [0, 1, 4, 5, 6, 7, 8, 9, 10, 11, 18, 25, 41, 50, 67, 79, 94, 100] rfl ?_
            | refine Xs rfl rfl rfl ?_
            | (refine Xsplit rfl rfl (fun hc => ?_) (fun hc => ?_) <;> (fail_if_success (with_reducible first | exact absurd (hc : true = false) (by decide) | exact absurd (hc : false = true) (by decide))) <;> (try simp only [decide_eq_true_eq, decide_eq_false_iff_not, Bool.not_eq_true', Bool.not_eq_false', beq_iff_eq, beq_eq_false_iff_ne, bne_iff_ne, bne_eq_false_iff_eq, ne_eq, Int.not_lt, Int.not_le, ge_iff_le, gt_iff_lt] at hc) <;> (try (exfalso; omega))))
           | ((with_reducible refine gWd ?_); first
            | (refine Wd_isMv rfl ?_; refine Ymv eok rfl rfl (fun _ => rfl) rfl rfl ?_)
            | refine Yp eok rfl rfl (fun _ => rfl) rfl rfl ?_ ?_
            | refine Yq rfl rfl rfl rfl rfl ?_ ?_
            | refine Ys rfl rfl rfl rfl ?_
            | refine Ya eok rfl rfl rfl rfl rfl rfl ?_ ?_
            | refine Yw eok rfl rfl rfl rfl rfl ?_ ?_
            | refine Yn [0, 1, 4, 5, 6, 7, 8, 9, 10, 11, 18, 25, 41, 50, 67, 79, 94, 100] [] mixed eok (by kernel_rfl) True.intro rfl ?_
            | (refine Ysplit rfl rfl (fun hc => ?_) (fun hc => ?_) <;> (fail_if_success (with_reducible first | exact absurd (hc : true = false) (by decide) | exact absurd (hc : false = true) (by decide))) <;> (try simp only [decide_eq_true_eq, decide_eq_false_iff_not, Bool.not_eq_true', Bool.not_eq_false', beq_iff_eq, beq_eq_false_iff_ne, bne_iff_ne, bne_eq_false_iff_eq, ne_eq, Int.not_lt, Int.not_le, ge_iff_le, gt_iff_lt] at hc) <;> (try (exfalso; omega))))
           | refine W_seq ?_
           | refine W_region ?_
           | refine W_any T.get ?_
           | refine W_skip ?_
           | refine W_ret ?_
           | refine W_block ?_
           | refine W_exit ?_
           | refine W_cond_t rfl ?_
           | refine W_cond_f rfl ?_
           | (refine W_cond rfl (fun hc => ?_) (fun hc => ?_) <;> (try simp only [decide_eq_true_eq, decide_eq_false_iff_not, Bool.not_eq_true', Bool.not_eq_false', beq_iff_eq, beq_eq_false_iff_ne, bne_iff_ne, bne_eq_false_iff_eq, ne_eq, Int.not_lt, Int.not_le, ge_iff_le, gt_iff_lt] at hc) <;> (try (exfalso; omega))))
          refine ⟨0 + 1, hil, by omega, Nat.le_refl _, ?_⟩
          exact TSub.cut rfl (by repeat' (first | exact True.intro | refine And.intro (by (first | rfl | ((with_reducible_and_instances refine congrArg (fun z => some (AV.d (D.i _ z))) ?_); omega) | (refine congrArg (fun z => some (AV.d (D.i _ z))) (?_ : (_ : Int) = _); omega) | (refine congrArg some ?_; simp only [ha, hn, Bool.false_or, Int.natCast_add]; done) | (refine congrArg some ?_; simp [ha, hn, Bool.false_or, Int.natCast_add]; done))) ?_)) (by repeat' (first | exact True.intro | refine And.intro (Or.inr rfl) ?_ | refine And.intro (Or.inl ⟨rfl, rfl⟩) ?_ | refine And.intro (Or.inr (by simp only [ha, hn, Bool.false_or, Int.natCast_add])) ?_ | refine And.intro (Or.inr (by simp [ha, hn, Bool.false_or, Int.natCast_add])) ?_)) (by first | rfl | (simp (decide := true) [heapOk, Blk.ok, AV.oks, AV.ok, hk]; done)) rfl
    · obtain ⟨z, hz⟩ := get_of (xs := ks) (k := i - 1) (by omega)
      have hlt : z < y := by
        have := List.pairwise_iff_getElem.1 k1 (i - 1) i (by omega) hil (by omega)
        rw [(List.getElem?_eq_some_iff.1 hz).2, (List.getElem?_eq_some_iff.1 hy).2] at this
        exact this
      have f1 := leq_no hlt
      have f4 : decide ((i : Int) > 0) = true := decide_eq_true (by omega)
      have f5 : (i : Int) - 1 = ((i - 1 : Nat) : Int) := by omega
      cases th with
      | true =>
        have nS := And.intro f1 (And.intro f4 (And.intro f5 f2))
        repeat' (first
         | ((with_reducible refine sg ?_); first
          | with_reducible rfl
          | ((with_reducible refine fitG ?_); first | kernel_rfl | rfl | (simp [fitT, fitF, nS]; done))
          | with_reducible refine andT ?_ ?_
          | with_reducible exact Nat.beq_refl _
          | with_reducible exact fitsI_u8 _
          | ((with_reducible refine decide_eq_true ?_); first | omega | (simp only [SZl, nS]; omega))
          | decide
          | (simp [SZl, slc, allOneD, D.one, allOne, AV.one, nS]; done)
          | (simp [SZl, nS]; omega))
         | ((with_reducible refine gWl ?_); first
          | (refine Wl_isMv rfl ?_; refine Xmv eok rfl rfl rfl rfl ?_)
          | (refine Wl_isIx rfl ?_; refine Xix eok rfl rfl rfl rfl rfl (Int.natCast_nonneg _) (ix_map hy) ?_)
          | (refine Wl_isIx rfl ?_; refine Xix eok rfl rfl rfl rfl rfl (Int.natCast_nonneg _) (ix_map hz) ?_)
          | refine Xq eok rfl rfl rfl rfl ?_ ?_
          | refine Xn [0, 1, 4, 5, 6, 7, 8, 9, 10, 11, 18, 25, 41, 50, 67, 79, 94, 100] rfl ?_
          | refine XF (cY) rfl rfl rfl rfl ?_
          | refine Xs rfl rfl rfl ?_
          | (refine Xsplit rfl rfl (fun hc => ?_) (fun hc => ?_) <;> (fail_if_success (with_reducible first | exact absurd (hc : true = false) (by decide) | exact absurd (hc : false = true) (by decide))) <;> (try simp only [decide_eq_true_eq, decide_eq_false_iff_not, Bool.not_eq_true', Bool.not_eq_false', beq_iff_eq, beq_eq_false_iff_ne, bne_iff_ne, bne_eq_false_iff_eq, ne_eq, Int.not_lt, Int.not_le, ge_iff_le, gt_iff_lt] at hc) <;> (try (exfalso; omega))))
         | ((with_reducible refine gWd ?_); first
          | (refine Wd_isMv rfl ?_; refine Ymv eok rfl rfl (fun _ => rfl) rfl rfl ?_)
          | (refine Wd_isIx rfl ?_; refine Yix eok rfl rfl (fun _ => rfl) rfl rfl rfl (Int.natCast_nonneg _) (ix_map hy) ?_)
          | (refine Wd_isIx rfl ?_; refine Yix eok rfl rfl (fun _ => rfl) rfl rfl rfl (Int.natCast_nonneg _) (ix_map hz) ?_)
          | refine Yp eok rfl rfl (fun _ => rfl) rfl rfl ?_ ?_
          | refine Yq rfl rfl rfl rfl rfl ?_ ?_
          | refine Ys rfl rfl rfl rfl ?_
          | refine YF (cY) rfl rfl rfl rfl rfl ?_
          | refine Ya eok rfl rfl rfl rfl rfl rfl ?_ ?_
          | refine Yw eok rfl rfl rfl rfl rfl ?_ ?_
          | refine Yn [0, 1, 4, 5, 6, 7, 8, 9, 10, 11, 18, 25, 41, 50, 67, 79, 94, 100] [] mixed eok (by kernel_rfl) True.intro rfl ?_
          | (refine Ysplit rfl rfl (fun hc => ?_) (fun hc => ?_) <;> (fail_if_success (with_reducible first | exact absurd (hc : true = false) (by decide) | exact absurd (hc : false = true) (by decide))) <;> (try simp only [decide_eq_true_eq, decide_eq_false_iff_not, Bool.not_eq_true', Bool.not_eq_false', beq_iff_eq, beq_eq_false_iff_ne, bne_iff_ne, bne_eq_false_iff_eq, ne_eq, Int.not_lt, Int.not_le, ge_iff_le, gt_iff_lt] at hc) <;> (try (exfalso; omega))))
         | refine W_seq ?_
         | refine W_region ?_
         | refine W_any T.get ?_
         | refine W_skip ?_
         | refine W_ret ?_
         | refine W_block ?_
         | refine W_exit ?_
         | refine W_cond_t rfl ?_
         | refine W_cond_f rfl ?_
         | (refine W_cond rfl (fun hc => ?_) (fun hc => ?_) <;> (try simp only [decide_eq_true_eq, decide_eq_false_iff_not, Bool.not_eq_true', Bool.not_eq_false', beq_iff_eq, beq_eq_false_iff_ne, bne_iff_ne, bne_eq_false_iff_eq, ne_eq, Int.not_lt, Int.not_le, ge_iff_le, gt_iff_lt] at hc) <;> (try (exfalso; omega))))
        refine W_loopI (fun j => j ≤ l.length) (fun j : Nat => ⟨[(0, .d (itemsD l)), (1, .d (.s key)), (4, .d (.b false)), (5, .d (strsD ks)), (6, .d (.i .i64 ((mn : Int) + (ofK y l).length))), (7, .d (.b true)), (8, .d (.i .i64 (i : Nat))), (9, .d (itemsD (ofK y l))), (10, .d (.i .i64 (ofK y (l.take j)).length)), (11, .d (.i .i64 j))], [], 117⟩) (fun j => l.length - j) 0 (Nat.zero_le _) ?_ (Nat.le_refl _) ?_
        · exact TSub.cut rfl (by repeat' (first | exact True.intro | refine And.intro (by (first | rfl | ((with_reducible_and_instances refine congrArg (fun z => some (AV.d (D.i _ z))) ?_); omega) | (refine congrArg (fun z => some (AV.d (D.i _ z))) (?_ : (_ : Int) = _); omega) | (refine congrArg some ?_; simp only [List.take_zero, ofK, List.filter_nil, List.length_nil]; done) | (refine congrArg some ?_; simp [List.take_zero, ofK, List.filter_nil, List.length_nil]; done))) ?_)) (by repeat' (first | exact True.intro | refine And.intro (Or.inr rfl) ?_ | refine And.intro (Or.inl ⟨rfl, rfl⟩) ?_ | refine And.intro (Or.inr (by simp only [List.take_zero, ofK, List.filter_nil, List.length_nil])) ?_ | refine And.intro (Or.inr (by simp [List.take_zero, ofK, List.filter_nil, List.length_nil])) ?_)) (by first | rfl | (simp (decide := true) [heapOk, Blk.ok, AV.oks, AV.ok, hk]; done)) rfl
        intro j hj
        have hoj := hof j hj
        by_cases hjl : j < l.length
        · obtain ⟨x, hx⟩ := get_of hjl
          cases hT : (x.key == y) with
          | true =>
            have hg2 := of_get hx hT
            have hin := ofK_in hx hT
            have hlt := (List.getElem?_eq_some_iff.1 hg2).1
            have hE := (item_eqX x x).trans (decide_eq_true rfl)
            have f3 : decide (((ofK y (l.take j)).length : Int) ≥ ((ofK y l).length : Int)) = false := decide_eq_false (by omega)
            have nS := And.intro hT (And.intro hE f3)
            repeat' (first
             | ((with_reducible refine sg ?_); first
              | with_reducible rfl
              | ((with_reducible refine fitG ?_); first | kernel_rfl | rfl | (simp [fitT, fitF, nS]; done))
              | with_reducible refine andT ?_ ?_
              | with_reducible exact Nat.beq_refl _
              | with_reducible exact fitsI_u8 _
              | ((with_reducible refine decide_eq_true ?_); first | omega | (simp only [SZl, nS]; omega))
              | decide
              | (simp [SZl, slc, allOneD, D.one, allOne, AV.one, nS]; done)
              | (simp [SZl, nS]; omega))
             | ((with_reducible refine gWl ?_); first
              | (refine Wl_isMv rfl ?_; refine Xmv eok rfl rfl rfl rfl ?_)
              | (refine Wl_isIx rfl ?_; refine Xix eok rfl rfl rfl rfl rfl (Int.natCast_nonneg _) (ix_map hx) ?_)
              | (refine Wl_isIx rfl ?_; refine Xix eok rfl rfl rfl rfl rfl (Int.natCast_nonneg _) (ix_map hg2) ?_)
              | (refine Wl_isIx rfl ?_; refine Xix eok rfl rfl rfl rfl rfl (Int.natCast_nonneg _) (ix_map hy) ?_)
              | refine Xq eok rfl rfl rfl rfl ?_ ?_
              | refine Xn [0, 1, 4, 5, 6, 7, 8, 9, 10, 11, 18, 25, 41, 50, 67, 79, 94, 100] rfl ?_
              | refine Xs rfl rfl rfl ?_
              | (refine Xsplit rfl rfl (fun hc => ?_) (fun hc => ?_) <;> (fail_if_success (with_reducible first | exact absurd (hc : true = false) (by decide) | exact absurd (hc : false = true) (by decide))) <;> (try simp only [decide_eq_true_eq, decide_eq_false_iff_not, Bool.not_eq_true', Bool.not_eq_false', beq_iff_eq, beq_eq_false_iff_ne, bne_iff_ne, bne_eq_false_iff_eq, ne_eq, Int.not_lt, Int.not_le, ge_iff_le, gt_iff_lt] at hc) <;> (try (exfalso; omega))))
             | ((with_reducible refine gWd ?_); first
              | (refine Wd_isMv rfl ?_; refine Ymv eok rfl rfl (fun _ => rfl) rfl rfl ?_)
              | (refine Wd_isIx rfl ?_; refine Yix eok rfl rfl (fun _ => rfl) rfl rfl rfl (Int.natCast_nonneg _) (ix_map hx) ?_)
              | (refine Wd_isIx rfl ?_; refine Yix eok rfl rfl (fun _ => rfl) rfl rfl rfl (Int.natCast_nonneg _) (ix_map hg2) ?_)
              | (refine Wd_isIx rfl ?_; refine Yix eok rfl rfl (fun _ => rfl) rfl rfl rfl (Int.natCast_nonneg _) (ix_map hy) ?_)
              | refine Yp eok rfl rfl (fun _ => rfl) rfl rfl ?_ ?_
              | refine Yq rfl rfl rfl rfl rfl ?_ ?_
              | refine Ys rfl rfl rfl rfl ?_
              | refine Ya eok rfl rfl rfl rfl rfl rfl ?_ ?_
              | refine Yw eok rfl rfl rfl rfl rfl ?_ ?_
              | refine Yn [0, 1, 4, 5, 6, 7, 8, 9, 10, 11, 18, 25, 41, 50, 67, 79, 94, 100] [] mixed eok (by kernel_rfl) True.intro rfl ?_
              | (refine Ysplit rfl rfl (fun hc => ?_) (fun hc => ?_) <;> (fail_if_success (with_reducible first | exact absurd (hc : true = false) (by decide) | exact absurd (hc : false = true) (by decide))) <;> (try simp only [decide_eq_true_eq, decide_eq_false_iff_not, Bool.not_eq_true', Bool.not_eq_false', beq_iff_eq, beq_eq_false_iff_ne, bne_iff_ne, bne_eq_false_iff_eq, ne_eq, Int.not_lt, Int.not_le, ge_iff_le, gt_iff_lt] at hc) <;> (try (exfalso; omega))))
             | refine W_seq ?_
             | refine W_region ?_
             | refine W_any T.get ?_
             | refine W_skip ?_
             | refine W_ret ?_
             | refine W_block ?_
             | refine W_exit ?_
             | refine W_cond_t rfl ?_
             | refine W_cond_f rfl ?_
             | (refine W_cond rfl (fun hc => ?_) (fun hc => ?_) <;> (try simp only [decide_eq_true_eq, decide_eq_false_iff_not, Bool.not_eq_true', Bool.not_eq_false', beq_iff_eq, beq_eq_false_iff_ne, bne_iff_ne, bne_eq_false_iff_eq, ne_eq, Int.not_lt, Int.not_le, ge_iff_le, gt_iff_lt] at hc) <;> (try (exfalso; omega))))
            refine ⟨j + 1, hjl, by omega, Nat.le_refl _, ?_⟩
            exact TSub.cut rfl (by repeat' (first | exact True.intro | refine And.intro (by (first | rfl | ((with_reducible_and_instances refine congrArg (fun z => some (AV.d (D.i _ z))) ?_); omega) | (refine congrArg (fun z => some (AV.d (D.i _ z))) (?_ : (_ : Int) = _); omega) | (refine congrArg some ?_; simp only [hin, List.length_append, List.length_cons, List.length_nil, Int.natCast_add]; done) | (refine congrArg some ?_; simp [hin, List.length_append, List.length_cons, List.length_nil, Int.natCast_add]; done))) ?_)) (by repeat' (first | exact True.intro | refine And.intro (Or.inr rfl) ?_ | refine And.intro (Or.inl ⟨rfl, rfl⟩) ?_ | refine And.intro (Or.inr (by simp only [hin, List.length_append, List.length_cons, List.length_nil, Int.natCast_add])) ?_ | refine And.intro (Or.inr (by simp [hin, List.length_append, List.length_cons, List.length_nil, Int.natCast_add])) ?_)) (by first | rfl | (simp (decide := true) [heapOk, Blk.ok, AV.oks, AV.ok, hk]; done)) rfl
          | false =>
            have hin := ofK_out hx hT
            have nS := hT
            repeat' (first
             | ((with_reducible refine sg ?_); first
              | with_reducible rfl
              | ((with_reducible refine fitG ?_); first | kernel_rfl | rfl | (simp [fitT, fitF, nS]; done))
              | with_reducible refine andT ?_ ?_
              | with_reducible exact Nat.beq_refl _
              | with_reducible exact fitsI_u8 _
              | ((with_reducible refine decide_eq_true ?_); first | omega | (simp only [SZl, nS]; omega))
              | decide
              | (simp [SZl, slc, allOneD, D.one, allOne, AV.one, nS]; done)
              | (simp [SZl, nS]; omega))
             | ((with_reducible refine gWl ?_); first
              | (refine Wl_isMv rfl ?_; refine Xmv eok rfl rfl rfl rfl ?_)
              | (refine Wl_isIx rfl ?_; refine Xix eok rfl rfl rfl rfl rfl (Int.natCast_nonneg _) (ix_map hx) ?_)
              | (refine Wl_isIx rfl ?_; refine Xix eok rfl rfl rfl rfl rfl (Int.natCast_nonneg _) (ix_map hy) ?_)
              | refine Xq eok rfl rfl rfl rfl ?_ ?_
              | refine Xn [0, 1, 4, 5, 6, 7, 8, 9, 10, 11, 18, 25, 41, 50, 67, 79, 94, 100] rfl ?_
              | refine Xs rfl rfl rfl ?_
              | (refine Xsplit rfl rfl (fun hc => ?_) (fun hc => ?_) <;> (fail_if_success (with_reducible first | exact absurd (hc : true = false) (by decide) | exact absurd (hc : false = true) (by decide))) <;> (try simp only [decide_eq_true_eq, decide_eq_false_iff_not, Bool.not_eq_true', Bool.not_eq_false', beq_iff_eq, beq_eq_false_iff_ne, bne_iff_ne, bne_eq_false_iff_eq, ne_eq, Int.not_lt, Int.not_le, ge_iff_le, gt_iff_lt] at hc) <;> (try (exfalso; omega))))
             | ((with_reducible refine gWd ?_); first
              | (refine Wd_isMv rfl ?_; refine Ymv eok rfl rfl (fun _ => rfl) rfl rfl ?_)
              | (refine Wd_isIx rfl ?_; refine Yix eok rfl rfl (fun _ => rfl) rfl rfl rfl (Int.natCast_nonneg _) (ix_map hx) ?_)
              | (refine Wd_isIx rfl ?_; refine Yix eok rfl rfl (fun _ => rfl) rfl rfl rfl (Int.natCast_nonneg _) (ix_map hy) ?_)
              | refine Yp eok rfl rfl (fun _ => rfl) rfl rfl ?_ ?_
              | refine Yq rfl rfl rfl rfl rfl ?_ ?_
              | refine Ys rfl rfl rfl rfl ?_
              | refine Ya eok rfl rfl rfl rfl rfl rfl ?_ ?_
              | refine Yw eok rfl rfl rfl rfl rfl ?_ ?_
              | refine Yn [0, 1, 4, 5, 6, 7, 8, 9, 10, 11, 18, 25, 41, 50, 67, 79, 94, 100] [] mixed eok (by kernel_rfl) True.intro rfl ?_
              | (refine Ysplit rfl rfl (fun hc => ?_) (fun hc => ?_) <;> (fail_if_success (with_reducible first | exact absurd (hc : true = false) (by decide) | exact absurd (hc : false = true) (by decide))) <;> (try simp only [decide_eq_true_eq, decide_eq_false_iff_not, Bool.not_eq_true', Bool.not_eq_false', beq_iff_eq, beq_eq_false_iff_ne, bne_iff_ne, bne_eq_false_iff_eq, ne_eq, Int.not_lt, Int.not_le, ge_iff_le, gt_iff_lt] at hc) <;> (try (exfalso; omega))))
             | refine W_seq ?_
             | refine W_region ?_
             | refine W_any T.get ?_
             | refine W_skip ?_
             | refine W_ret ?_
             | refine W_block ?_
             | refine W_exit ?_
             | refine W_cond_t rfl ?_
             | refine W_cond_f rfl ?_
             | (refine W_cond rfl (fun hc => ?_) (fun hc => ?_) <;> (try simp only [decide_eq_true_eq, decide_eq_false_iff_not, Bool.not_eq_true', Bool.not_eq_false', beq_iff_eq, beq_eq_false_iff_ne, bne_iff_ne, bne_eq_false_iff_eq, ne_eq, Int.not_lt, Int.not_le, ge_iff_le, gt_iff_lt] at hc) <;> (try (exfalso; omega))))
            refine ⟨j + 1, hjl, by omega, Nat.le_refl _, ?_⟩
            exact TSub.cut rfl (by repeat' (first | exact True.intro | refine And.intro (by (first | rfl | ((with_reducible_and_instances refine congrArg (fun z => some (AV.d (D.i _ z))) ?_); omega) | (refine congrArg (fun z => some (AV.d (D.i _ z))) (?_ : (_ : Int) = _); omega) | (refine congrArg some ?_; simp only [hin]; done) | (refine congrArg some ?_; simp [hin]; done))) ?_)) (by repeat' (first | exact True.intro | refine And.intro (Or.inr rfl) ?_ | refine And.intro (Or.inl ⟨rfl, rfl⟩) ?_ | refine And.intro (Or.inr (by simp only [hin])) ?_ | refine And.intro (Or.inr (by simp [hin])) ?_)) (by first | rfl | (simp (decide := true) [heapOk, Blk.ok, AV.oks, AV.ok, hk]; done)) rfl
        · have e : j = l.length := by omega
          subst e
          rw [List.take_length]
          have nS := True.intro
          repeat' (first
           | ((with_reducible refine sg ?_); first
            | with_reducible rfl
            | ((with_reducible refine fitG ?_); first | kernel_rfl | rfl | (simp [fitT, fitF, nS]; done))
            | with_reducible refine andT ?_ ?_
            | with_reducible exact Nat.beq_refl _
            | with_reducible exact fitsI_u8 _
            | ((with_reducible refine decide_eq_true ?_); first | omega | (simp only [SZl, nS]; omega))
            | decide
            | (simp [SZl, slc, allOneD, D.one, allOne, AV.one, nS]; done)
            | (simp [SZl, nS]; omega))
           | ((with_reducible refine gWl ?_); first
            | (refine Wl_isMv rfl ?_; refine Xmv eok rfl rfl rfl rfl ?_)
            | refine Xq eok rfl rfl rfl rfl ?_ ?_
            | refine Xn [0, 1, 4, 5, 6, 7, 8, 9, 10, 11, 18, 25, 41, 50, 67, 79, 94, 100] rfl ?_
            | refine Xs rfl rfl rfl ?_
            | (refine Xsplit rfl rfl (fun hc => ?_) (fun hc => ?_) <;> (fail_if_success (with_reducible first | exact absurd (hc : true = false) (by decide) | exact absurd (hc : false = true) (by decide))) <;> (try simp only [decide_eq_true_eq, decide_eq_false_iff_not, Bool.not_eq_true', Bool.not_eq_false', beq_iff_eq, beq_eq_false_iff_ne, bne_iff_ne, bne_eq_false_iff_eq, ne_eq, Int.not_lt, Int.not_le, ge_iff_le, gt_iff_lt] at hc) <;> (try (exfalso; omega))))
           | ((with_reducible refine gWd ?_); first
            | (refine Wd_isMv rfl ?_; refine Ymv eok rfl rfl (fun _ => rfl) rfl rfl ?_)
            | refine Yp eok rfl rfl (fun _ => rfl) rfl rfl ?_ ?_
            | refine Yq rfl rfl rfl rfl rfl ?_ ?_
            | refine Ys rfl rfl rfl rfl ?_
            | refine Ya eok rfl rfl rfl rfl rfl rfl ?_ ?_
            | refine Yw eok rfl rfl rfl rfl rfl ?_ ?_
            | refine Yn [0, 1, 4, 5, 6, 7, 8, 9, 10, 11, 18, 25, 41, 50, 67, 79, 94, 100] [] mixed eok (by kernel_rfl) True.intro rfl ?_
            | (refine Ysplit rfl rfl (fun hc => ?_) (fun hc => ?_) <;> (fail_if_success (with_reducible first | exact absurd (hc : true = false) (by decide) | exact absurd (hc : false = true) (by decide))) <;> (try simp only [decide_eq_true_eq, decide_eq_false_iff_not, Bool.not_eq_true', Bool.not_eq_false', beq_iff_eq, beq_eq_false_iff_ne, bne_iff_ne, bne_eq_false_iff_eq, ne_eq, Int.not_lt, Int.not_le, ge_iff_le, gt_iff_lt] at hc) <;> (try (exfalso; omega))))
           | refine W_seq ?_
           | refine W_region ?_
           | refine W_any T.get ?_
           | refine W_skip ?_
           | refine W_ret ?_
           | refine W_block ?_
           | refine W_exit ?_
           | refine W_cond_t rfl ?_
           | refine W_cond_f rfl ?_
           | (refine W_cond rfl (fun hc => ?_) (fun hc => ?_) <;> (try simp only [decide_eq_true_eq, decide_eq_false_iff_not, Bool.not_eq_true', Bool.not_eq_false', beq_iff_eq, beq_eq_false_iff_ne, bne_iff_ne, bne_eq_false_iff_eq, ne_eq, Int.not_lt, Int.not_le, ge_iff_le, gt_iff_lt] at hc) <;> (try (exfalso; omega))))
          refine ⟨i + 1, hil, by omega, Nat.le_refl _, ?_⟩
          exact TSub.cut rfl (by repeat' (first | exact True.intro | refine And.intro (by (first | rfl | ((with_reducible_and_instances refine congrArg (fun z => some (AV.d (D.i _ z))) ?_); omega) | (refine congrArg (fun z => some (AV.d (D.i _ z))) (?_ : (_ : Int) = _); omega) | (refine congrArg some ?_; simp only [ha, hn, Bool.true_or, Int.natCast_add]; done) | (refine congrArg some ?_; simp [ha, hn, Bool.true_or, Int.natCast_add]; done))) ?_)) (by repeat' (first | exact True.intro | refine And.intro (Or.inr rfl) ?_ | refine And.intro (Or.inl ⟨rfl, rfl⟩) ?_ | refine And.intro (Or.inr (by simp only [ha, hn, Bool.true_or, Int.natCast_add])) ?_ | refine And.intro (Or.inr (by simp [ha, hn, Bool.true_or, Int.natCast_add])) ?_)) (by first | rfl | (simp (decide := true) [heapOk, Blk.ok, AV.oks, AV.ok, hk]; done)) rfl
      | false =>
        have nS := And.intro f1 (And.intro f4 (And.intro f5 f2))
        repeat' (first
         | ((with_reducible refine sg ?_); first
          | with_reducible rfl
          | ((with_reducible refine fitG ?_); first | kernel_rfl | rfl | (simp [fitT, fitF, nS]; done))
          | with_reducible refine andT ?_ ?_
          | with_reducible exact Nat.beq_refl _
          | with_reducible exact fitsI_u8 _
          | ((with_reducible refine decide_eq_true ?_); first | omega | (simp only [SZl, nS]; omega))
          | decide
          | (simp [SZl, slc, allOneD, D.one, allOne, AV.one, nS]; done)
          | (simp [SZl, nS]; omega))
         | ((with_reducible refine gWl ?_); first
          | (refine Wl_isMv rfl ?_; refine Xmv eok rfl rfl rfl rfl ?_)
          | (refine Wl_isIx rfl ?_; refine Xix eok rfl rfl rfl rfl rfl (Int.natCast_nonneg _) (ix_map hy) ?_)
          | (refine Wl_isIx rfl ?_; refine Xix eok rfl rfl rfl rfl rfl (Int.natCast_nonneg _) (ix_map hz) ?_)
          | refine Xq eok rfl rfl rfl rfl ?_ ?_
          | refine Xn [0, 1, 4, 5, 6, 7, 8, 9, 10, 11, 18, 25, 41, 50, 67, 79, 94, 100] rfl ?_
          | refine XF (cY) rfl rfl rfl rfl ?_
          | refine Xs rfl rfl rfl ?_
          | (refine Xsplit rfl rfl (fun hc => ?_) (fun hc => ?_) <;> (fail_if_success (with_reducible first | exact absurd (hc : true = false) (by decide) | exact absurd (hc : false = true) (by decide))) <;> (try simp only [decide_eq_true_eq, decide_eq_false_iff_not, Bool.not_eq_true', Bool.not_eq_false', beq_iff_eq, beq_eq_false_iff_ne, bne_iff_ne, bne_eq_false_iff_eq, ne_eq, Int.not_lt, Int.not_le, ge_iff_le, gt_iff_lt] at hc) <;> (try (exfalso; omega))))
         | ((with_reducible refine gWd ?_); first
          | (refine Wd_isMv rfl ?_; refine Ymv eok rfl rfl (fun _ => rfl) rfl rfl ?_)
          | (refine Wd_isIx rfl ?_; refine Yix eok rfl rfl (fun _ => rfl) rfl rfl rfl (Int.natCast_nonneg _) (ix_map hy) ?_)
          | (refine Wd_isIx rfl ?_; refine Yix eok rfl rfl (fun _ => rfl) rfl rfl rfl (Int.natCast_nonneg _) (ix_map hz) ?_)
          | refine Yp eok rfl rfl (fun _ => rfl) rfl rfl ?_ ?_
          | refine Yq rfl rfl rfl rfl rfl ?_ ?_
          | refine Ys rfl rfl rfl rfl ?_
          | refine YF (cY) rfl rfl rfl rfl rfl ?_
          | refine Ya eok rfl rfl rfl rfl rfl rfl ?_ ?_
          | refine Yw eok rfl rfl rfl rfl rfl ?_ ?_
          | refine Yn [0, 1, 4, 5, 6, 7, 8, 9, 10, 11, 18, 25, 41, 50, 67, 79, 94, 100] [] mixed eok (by kernel_rfl) True.intro rfl ?_
          | (refine Ysplit rfl rfl (fun hc => ?_) (fun hc => ?_) <;> (fail_if_success (with_reducible first | exact absurd (hc : true = false) (by decide) | exact absurd (hc : false = true) (by decide))) <;> (try simp only [decide_eq_true_eq, decide_eq_false_iff_not, Bool.not_eq_true', Bool.not_eq_false', beq_iff_eq, beq_eq_false_iff_ne, bne_iff_ne, bne_eq_false_iff_eq, ne_eq, Int.not_lt, Int.not_le, ge_iff_le, gt_iff_lt] at hc) <;> (try (exfalso; omega))))
         | refine W_seq ?_
         | refine W_region ?_
         | refine W_any T.get ?_
         | refine W_skip ?_
         | refine W_ret ?_
         | refine W_block ?_
         | refine W_exit ?_
         | refine W_cond_t rfl ?_
         | refine W_cond_f rfl ?_
         | (refine W_cond rfl (fun hc => ?_) (fun hc => ?_) <;> (try simp only [decide_eq_true_eq, decide_eq_false_iff_not, Bool.not_eq_true', Bool.not_eq_false', beq_iff_eq, beq_eq_false_iff_ne, bne_iff_ne, bne_eq_false_iff_eq, ne_eq, Int.not_lt, Int.not_le, ge_iff_le, gt_iff_lt] at hc) <;> (try (exfalso; omega))))
        refine W_loopI (fun j => j ≤ l.length) (fun j : Nat => ⟨[(0, .d (itemsD l)), (1, .d (.s key)), (4, .d (.b false)), (5, .d (strsD ks)), (6, .d (.i .i64 ((mn : Int) + (ofK y l).length))), (7, .d (.b (y == key))), (8, .d (.i .i64 (i : Nat))), (9, .d (itemsD (ofK y l))), (10, .d (.i .i64 (ofK y (l.take j)).length)), (11, .d (.i .i64 j))], [], 117⟩) (fun j => l.length - j) 0 (Nat.zero_le _) ?_ (Nat.le_refl _) ?_
        · exact TSub.cut rfl (by repeat' (first | exact True.intro | refine And.intro (by (first | rfl | ((with_reducible_and_instances refine congrArg (fun z => some (AV.d (D.i _ z))) ?_); omega) | (refine congrArg (fun z => some (AV.d (D.i _ z))) (?_ : (_ : Int) = _); omega) | (refine congrArg some ?_; simp only [List.take_zero, ofK, List.filter_nil, List.length_nil]; done) | (refine congrArg some ?_; simp [List.take_zero, ofK, List.filter_nil, List.length_nil]; done))) ?_)) (by repeat' (first | exact True.intro | refine And.intro (Or.inr rfl) ?_ | refine And.intro (Or.inl ⟨rfl, rfl⟩) ?_ | refine And.intro (Or.inr (by simp only [List.take_zero, ofK, List.filter_nil, List.length_nil])) ?_ | refine And.intro (Or.inr (by simp [List.take_zero, ofK, List.filter_nil, List.length_nil])) ?_)) (by first | rfl | (simp (decide := true) [heapOk, Blk.ok, AV.oks, AV.ok, hk]; done)) rfl
        intro j hj
        have hoj := hof j hj
        by_cases hjl : j < l.length
        · obtain ⟨x, hx⟩ := get_of hjl
          cases hT : (x.key == y) with
          | true =>
            have hg2 := of_get hx hT
            have hin := ofK_in hx hT
            have hlt := (List.getElem?_eq_some_iff.1 hg2).1
            have hE := (item_eqX x x).trans (decide_eq_true rfl)
            have f3 : decide (((ofK y (l.take j)).length : Int) ≥ ((ofK y l).length : Int)) = false := decide_eq_false (by omega)
            have nS := And.intro hT (And.intro hE f3)
            repeat' (first
             | ((with_reducible refine sg ?_); first
              | with_reducible rfl
              | ((with_reducible refine fitG ?_); first | kernel_rfl | rfl | (simp [fitT, fitF, nS]; done))
              | with_reducible refine andT ?_ ?_
              | with_reducible exact Nat.beq_refl _
              | with_reducible exact fitsI_u8 _
              | ((with_reducible refine decide_eq_true ?_); first | omega | (simp only [SZl, nS]; omega))
              | decide
              | (simp [SZl, slc, allOneD, D.one, allOne, AV.one, nS]; done)
              | (simp [SZl, nS]; omega))
             | ((with_reducible refine gWl ?_); first
              | (refine Wl_isMv rfl ?_; refine Xmv eok rfl rfl rfl rfl ?_)
              | (refine Wl_isIx rfl ?_; refine Xix eok rfl rfl rfl rfl rfl (Int.natCast_nonneg _) (ix_map hx) ?_)
              | (refine Wl_isIx rfl ?_; refine Xix eok rfl rfl rfl rfl rfl (Int.natCast_nonneg _) (ix_map hg2) ?_)
              | (refine Wl_isIx rfl ?_; refine Xix eok rfl rfl rfl rfl rfl (Int.natCast_nonneg _) (ix_map hy) ?_)
              | refine Xq eok rfl rfl rfl rfl ?_ ?_
              | refine Xn [0, 1, 4, 5, 6, 7, 8, 9, 10, 11, 18, 25, 41, 50, 67, 79, 94, 100] rfl ?_
              | refine Xs rfl rfl rfl ?_
              | (refine Xsplit rfl rfl (fun hc => ?_) (fun hc => ?_) <;> (fail_if_success (with_reducible first | exact absurd (hc : true = false) (by decide) | exact absurd (hc : false = true) (by decide))) <;> (try simp only [decide_eq_true_eq, decide_eq_false_iff_not, Bool.not_eq_true', Bool.not_eq_false', beq_iff_eq, beq_eq_false_iff_ne, bne_iff_ne, bne_eq_false_iff_eq, ne_eq, Int.not_lt, Int.not_le, ge_iff_le, gt_iff_lt] at hc) <;> (try (exfalso; omega))))
             | ((with_reducible refine gWd ?_); first
              | (refine Wd_isMv rfl ?_; refine Ymv eok rfl rfl (fun _ => rfl) rfl rfl ?_)
              | (refine Wd_isIx rfl ?_; refine Yix eok rfl rfl (fun _ => rfl) rfl rfl rfl (Int.natCast_nonneg _) (ix_map hx) ?_)
              | (refine Wd_isIx rfl ?_; refine Yix eok rfl rfl (fun _ => rfl) rfl rfl rfl (Int.natCast_nonneg _) (ix_map hg2) ?_)
              | (refine Wd_isIx rfl ?_; refine Yix eok rfl rfl (fun _ => rfl) rfl rfl rfl (Int.natCast_nonneg _) (ix_map hy) ?_)
              | refine Yp eok rfl rfl (fun _ => rfl) rfl rfl ?_ ?_
              | refine Yq rfl rfl rfl rfl rfl ?_ ?_
              | refine Ys rfl rfl rfl rfl ?_
              | refine Ya eok rfl rfl rfl rfl rfl rfl ?_ ?_
              | refine Yw eok rfl rfl rfl rfl rfl ?_ ?_
              | refine Yn [0, 1, 4, 5, 6, 7, 8, 9, 10, 11, 18, 25, 41, 50, 67, 79, 94, 100] [] mixed eok (by kernel_rfl) True.intro rfl ?_
              | (refine Ysplit rfl rfl (fun hc => ?_) (fun hc => ?_) <;> (fail_if_success (with_reducible first | exact absurd (hc : true = false) (by decide) | exact absurd (hc : false = true) (by decide))) <;> (try simp only [decide_eq_true_eq, decide_eq_false_iff_not, Bool.not_eq_true', Bool.not_eq_false', beq_iff_eq, beq_eq_false_iff_ne, bne_iff_ne, bne_eq_false_iff_eq, ne_eq, Int.not_lt, Int.not_le, ge_iff_le, gt_iff_lt] at hc) <;> (try (exfalso; omega))))
             | refine W_seq ?_
             | refine W_region ?_
             | refine W_any T.get ?_
             | refine W_skip ?_
             | refine W_ret ?_
             | refine W_block ?_
             | refine W_exit ?_
             | refine W_cond_t rfl ?_
             | refine W_cond_f rfl ?_
             | (refine W_cond rfl (fun hc => ?_) (fun hc => ?_) <;> (try simp only [decide_eq_true_eq, decide_eq_false_iff_not, Bool.not_eq_true', Bool.not_eq_false', beq_iff_eq, beq_eq_false_iff_ne, bne_iff_ne, bne_eq_false_iff_eq, ne_eq, Int.not_lt, Int.not_le, ge_iff_le, gt_iff_lt] at hc) <;> (try (exfalso; omega))))
            refine ⟨j + 1, hjl, by omega, Nat.le_refl _, ?_⟩
            exact TSub.cut rfl (by repeat' (first | exact True.intro | refine And.intro (by (first | rfl | ((with_reducible_and_instances refine congrArg (fun z => some (AV.d (D.i _ z))) ?_); omega) | (refine congrArg (fun z => some (AV.d (D.i _ z))) (?_ : (_ : Int) = _); omega) | (refine congrArg some ?_; simp only [hin, List.length_append, List.length_cons, List.length_nil, Int.natCast_add]; done) | (refine congrArg some ?_; simp [hin, List.length_append, List.length_cons, List.length_nil, Int.natCast_add]; done))) ?_)) (by repeat' (first | exact True.intro | refine And.intro (Or.inr rfl) ?_ | refine And.intro (Or.inl ⟨rfl, rfl⟩) ?_ | refine And.intro (Or.inr (by simp only [hin, List.length_append, List.length_cons, List.length_nil, Int.natCast_add])) ?_ | refine And.intro (Or.inr (by simp [hin, List.length_append, List.length_cons, List.length_nil, Int.natCast_add])) ?_)) (by first | rfl | (simp (decide := true) [heapOk, Blk.ok, AV.oks, AV.ok, hk]; done)) rfl
          | false =>
            have hin := ofK_out hx hT
            have nS := hT
            repeat' (first
             | ((with_reducible refine sg ?_); first
              | with_reducible rfl
              | ((with_reducible refine fitG ?_); first | kernel_rfl | rfl | (simp [fitT, fitF, nS]; done))
              | with_reducible refine andT ?_ ?_
              | with_reducible exact Nat.beq_refl _
              | with_reducible exact fitsI_u8 _
              | ((with_reducible refine decide_eq_true ?_); first | omega | (simp only [SZl, nS]; omega))
              | decide
              | (simp [SZl, slc, allOneD, D.one, allOne, AV.one, nS]; done)
              | (simp [SZl, nS]; omega))
             | ((with_reducible refine gWl ?_); first
              | (refine Wl_isMv rfl ?_; refine Xmv eok rfl rfl rfl rfl ?_)
              | (refine Wl_isIx rfl ?_; refine Xix eok rfl rfl rfl rfl rfl (Int.natCast_nonneg _) (ix_map hx) ?_)
              | (refine Wl_isIx rfl ?_; refine Xix eok rfl rfl rfl rfl rfl (Int.natCast_nonneg _) (ix_map hy) ?_)
              | refine Xq eok rfl rfl rfl rfl ?_ ?_
              | refine Xn [0, 1, 4, 5, 6, 7, 8, 9, 10, 11, 18, 25, 41, 50, 67, 79, 94, 100] rfl ?_
              | refine Xs rfl rfl rfl ?_
              | (refine Xsplit rfl rfl (fun hc => ?_) (fun hc => ?_) <;> (fail_if_success (with_reducible first | exact absurd (hc : true = false) (by decide) | exact absurd (hc : false = true) (by decide))) <;> (try simp only [decide_eq_true_eq, decide_eq_false_iff_not, Bool.not_eq_true', Bool.not_eq_false', beq_iff_eq, beq_eq_false_iff_ne, bne_iff_ne, bne_eq_false_iff_eq, ne_eq, Int.not_lt, Int.not_le, ge_iff_le, gt_iff_lt] at hc) <;> (try (exfalso; omega))))
             | ((with_reducible refine gWd ?_); first
              | (refine Wd_isMv rfl ?_; refine Ymv eok rfl rfl (fun _ => rfl) rfl rfl ?_)
              | (refine Wd_isIx rfl ?_; refine Yix eok rfl rfl (fun _ => rfl) rfl rfl rfl (Int.natCast_nonneg _) (ix_map hx) ?_)
              | (refine Wd_isIx rfl ?_; refine Yix eok rfl rfl (fun _ => rfl) rfl rfl rfl (Int.natCast_nonneg _) (ix_map hy) ?_)
              | refine Yp eok rfl rfl (fun _ => rfl) rfl rfl ?_ ?_
              | refine Yq rfl rfl rfl rfl rfl ?_ ?_
              | refine Ys rfl rfl rfl rfl ?_
              | refine Ya eok rfl rfl rfl rfl rfl rfl ?_ ?_
              | refine Yw eok rfl rfl rfl rfl rfl ?_ ?_
              | refine Yn [0, 1, 4, 5, 6, 7, 8, 9, 10, 11, 18, 25, 41, 50, 67, 79, 94, 100] [] mixed eok (by kernel_rfl) True.intro rfl ?_
              | (refine Ysplit rfl rfl (fun hc => ?_) (fun hc => ?_) <;> (fail_if_success (with_reducible first | exact absurd (hc : true = false) (by decide) | exact absurd (hc : false = true) (by decide))) <;> (try simp only [decide_eq_true_eq, decide_eq_false_iff_not, Bool.not_eq_true', Bool.not_eq_false', beq_iff_eq, beq_eq_false_iff_ne, bne_iff_ne, bne_eq_false_iff_eq, ne_eq, Int.not_lt, Int.not_le, ge_iff_le, gt_iff_lt] at hc) <;> (try (exfalso; omega))))
             | refine W_seq ?_
             | refine W_region ?_
             | refine W_any T.get ?_
             | refine W_skip ?_
             | refine W_ret ?_
             | refine W_block ?_
             | refine W_exit ?_
             | refine W_cond_t rfl ?_
             | refine W_cond_f rfl ?_
             | (refine W_cond rfl (fun hc => ?_) (fun hc => ?_) <;> (try simp only [decide_eq_true_eq, decide_eq_false_iff_not, Bool.not_eq_true', Bool.not_eq_false', beq_iff_eq, beq_eq_false_iff_ne, bne_iff_ne, bne_eq_false_iff_eq, ne_eq, Int.not_lt, Int.not_le, ge_iff_le, gt_iff_lt] at hc) <;> (try (exfalso; omega))))
            refine ⟨j + 1, hjl, by omega, Nat.le_refl _, ?_⟩
            exact TSub.cut rfl (by repeat' (first | exact True.intro | refine And.intro (by (first | rfl | ((with_reducible_and_instances refine congrArg (fun z => some (AV.d (D.i _ z))) ?_); omega) | (refine congrArg (fun z => some (AV.d (D.i _ z))) (?_ : (_ : Int) = _); omega) | (refine congrArg some ?_; simp only [hin]; done) | (refine congrArg some ?_; simp [hin]; done))) ?_)) (by repeat' (first | exact True.intro | refine And.intro (Or.inr rfl) ?_ | refine And.intro (Or.inl ⟨rfl, rfl⟩) ?_ | refine And.intro (Or.inr (by simp only [hin])) ?_ | refine And.intro (Or.inr (by simp [hin])) ?_)) (by first | rfl | (simp (decide := true) [heapOk, Blk.ok, AV.oks, AV.ok, hk]; done)) rfl
        · have e : j = l.length := by omega
          subst e
          rw [List.take_length]
          have nS := True.intro
          repeat' (first
           | ((with_reducible refine sg ?_); first
            | with_reducible rfl
            | ((with_reducible refine fitG ?_); first | kernel_rfl | rfl | (simp [fitT, fitF, nS]; done))
            | with_reducible refine andT ?_ ?_
            | with_reducible exact Nat.beq_refl _
            | with_reducible exact fitsI_u8 _
            | ((with_reducible refine decide_eq_true ?_); first | omega | (simp only [SZl, nS]; omega))
            | decide
            | (simp [SZl, slc, allOneD, D.one, allOne, AV.one, nS]; done)
            | (simp [SZl, nS]; omega))
           | ((with_reducible refine gWl ?_); first
            | (refine Wl_isMv rfl ?_; refine Xmv eok rfl rfl rfl rfl ?_)
            | refine Xq eok rfl rfl rfl rfl ?_ ?_
            | refine Xn [0, 1, 4, 5, 6, 7, 8, 9, 10, 11, 18, 25, 41, 50, 67, 79, 94, 100] rfl ?_
            | refine Xs rfl rfl rfl ?_
            | (refine Xsplit rfl rfl (fun hc => ?_) (fun hc => ?_) <;> (fail_if_success (with_reducible first | exact absurd (hc : true = false) (by decide) | exact absurd (hc : false = true) (by decide))) <;> (try simp only [decide_eq_true_eq, decide_eq_false_iff_not, Bool.not_eq_true', Bool.not_eq_false', beq_iff_eq, beq_eq_false_iff_ne, bne_iff_ne, bne_eq_false_iff_eq, ne_eq, Int.not_lt, Int.not_le, ge_iff_le, gt_iff_lt] at hc) <;> (try (exfalso; omega))))
           | ((with_reducible refine gWd ?_); first
            | (refine Wd_isMv rfl ?_; refine Ymv eok rfl rfl (fun _ => rfl) rfl rfl ?_)
            | refine Yp eok rfl rfl (fun _ => rfl) rfl rfl ?_ ?_
            | refine Yq rfl rfl rfl rfl rfl ?_ ?_
            | refine Ys rfl rfl rfl rfl ?_
            | refine Ya eok rfl rfl rfl rfl rfl rfl ?_ ?_
            | refine Yw eok rfl rfl rfl rfl rfl ?_ ?_
            | refine Yn [0, 1, 4, 5, 6, 7, 8, 9, 10, 11, 18, 25, 41, 50, 67, 79, 94, 100] [] mixed eok (by kernel_rfl) True.intro rfl ?_
            | (refine Ysplit rfl rfl (fun hc => ?_) (fun hc => ?_) <;> (fail_if_success (with_reducible first | exact absurd (hc : true = false) (by decide) | exact absurd (hc : false = true) (by decide))) <;> (try simp only [decide_eq_true_eq, decide_eq_false_iff_not, Bool.not_eq_true', Bool.not_eq_false', beq_iff_eq, beq_eq_false_iff_ne, bne_iff_ne, bne_eq_false_iff_eq, ne_eq, Int.not_lt, Int.not_le, ge_iff_le, gt_iff_lt] at hc) <;> (try (exfalso; omega))))
           | refine W_seq ?_
           | refine W_region ?_
           | refine W_any T.get ?_
           | refine W_skip ?_
           | refine W_ret ?_
           | refine W_block ?_
           | refine W_exit ?_
           | refine W_cond_t rfl ?_
           | refine W_cond_f rfl ?_
           | (refine W_cond rfl (fun hc => ?_) (fun hc => ?_) <;> (try simp only [decide_eq_true_eq, decide_eq_false_iff_not, Bool.not_eq_true', Bool.not_eq_false', beq_iff_eq, beq_eq_false_iff_ne, bne_iff_ne, bne_eq_false_iff_eq, ne_eq, Int.not_lt, Int.not_le, ge_iff_le, gt_iff_lt] at hc) <;> (try (exfalso; omega))))
          refine ⟨i + 1, hil, by omega, Nat.le_refl _, ?_⟩
          exact TSub.cut rfl (by repeat' (first | exact True.intro | refine And.intro (by (first | rfl | ((with_reducible_and_instances refine congrArg (fun z => some (AV.d (D.i _ z))) ?_); omega) | (refine congrArg (fun z => some (AV.d (D.i _ z))) (?_ : (_ : Int) = _); omega) | (refine congrArg some ?_; simp only [ha, hn, Bool.false_or, Int.natCast_add]; done) | (refine congrArg some ?_; simp [ha, hn, Bool.false_or, Int.natCast_add]; done))) ?_)) (by repeat' (first | exact True.intro | refine And.intro (Or.inr rfl) ?_ | refine And.intro (Or.inl ⟨rfl, rfl⟩) ?_ | refine And.intro (Or.inr (by simp only [ha, hn, Bool.false_or, Int.natCast_add])) ?_ | refine And.intro (Or.inr (by simp [ha, hn, Bool.false_or, Int.natCast_add])) ?_)) (by first | rfl | (simp (decide := true) [heapOk, Blk.ok, AV.oks, AV.ok, hk]; done)) rfl
  · have e : i = ks.length := by omega
    subst e
    rw [List.take_length]
    have hb : ((ks.any fun y => y == key) == decide (((ofK key l).length : Int) > 0)) = true := by
      rw [hkey, beq_iff_eq, decide_eq_decide]; omega
    rw [hsum]
    have nS := hb
    repeat' (first
     | ((with_reducible refine sg ?_); first
      | with_reducible rfl
      | ((with_reducible refine fitG ?_); first | kernel_rfl | rfl | (simp [fitT, fitF, nS]; done))
      | with_reducible refine andT ?_ ?_
      | with_reducible exact Nat.beq_refl _
      | with_reducible exact fitsI_u8 _
      | ((with_reducible refine decide_eq_true ?_); first | omega | (simp only [SZl, nS]; omega))
      | decide
      | (simp [SZl, slc, allOneD, D.one, allOne, AV.one, nS]; done)
      | (simp [SZl, nS]; omega))
     | ((with_reducible refine gWl ?_); first
      | (refine Wl_isMv rfl ?_; refine Xmv eok rfl rfl rfl rfl ?_)
      | refine Xq eok rfl rfl rfl rfl ?_ ?_
      | refine Xn [0, 1, 4, 5, 6, 7, 8, 9, 10, 11, 18, 25, 41, 50, 67, 79, 94, 100] rfl ?_
      | refine XF (cO) rfl rfl rfl rfl ?_
      | refine XF (wakes_fn) rfl rfl rfl rfl ?_
      | refine Xs rfl rfl rfl ?_
      | (refine Xsplit rfl rfl (fun hc => ?_) (fun hc => ?_) <;> (fail_if_success (with_reducible first | exact absurd (hc : true = false) (by decide) | exact absurd (hc : false = true) (by decide))) <;> (try simp only [decide_eq_true_eq, decide_eq_false_iff_not, Bool.not_eq_true', Bool.not_eq_false', beq_iff_eq, beq_eq_false_iff_ne, bne_iff_ne, bne_eq_false_iff_eq, ne_eq, Int.not_lt, Int.not_le, ge_iff_le, gt_iff_lt] at hc) <;> (try (exfalso; omega))))
     | ((with_reducible refine gWd ?_); first
      | (refine Wd_isMv rfl ?_; refine Ymv eok rfl rfl (fun _ => rfl) rfl rfl ?_)
      | refine Yp eok rfl rfl (fun _ => rfl) rfl rfl ?_ ?_
      | refine Yq rfl rfl rfl rfl rfl ?_ ?_
      | refine Ys rfl rfl rfl rfl ?_
      | refine YF (cO) rfl rfl rfl rfl rfl ?_
      | refine YF (wakes_fn) rfl rfl rfl rfl rfl ?_
      | refine Ya eok rfl rfl rfl rfl rfl rfl ?_ ?_
      | refine Yw eok rfl rfl rfl rfl rfl ?_ ?_
      | refine Yn [0, 1, 4, 5, 6, 7, 8, 9, 10, 11, 18, 25, 41, 50, 67, 79, 94, 100] [] mixed eok (by kernel_rfl) True.intro rfl ?_
      | (refine Ysplit rfl rfl (fun hc => ?_) (fun hc => ?_) <;> (fail_if_success (with_reducible first | exact absurd (hc : true = false) (by decide) | exact absurd (hc : false = true) (by decide))) <;> (try simp only [decide_eq_true_eq, decide_eq_false_iff_not, Bool.not_eq_true', Bool.not_eq_false', beq_iff_eq, beq_eq_false_iff_ne, bne_iff_ne, bne_eq_false_iff_eq, ne_eq, Int.not_lt, Int.not_le, ge_iff_le, gt_iff_lt] at hc) <;> (try (exfalso; omega))))
     | refine W_seq ?_
     | refine W_region ?_
     | refine W_any T.get ?_
     | refine W_skip ?_
     | refine W_ret ?_
     | refine W_block ?_
     | refine W_exit ?_
     | refine W_cond_t rfl ?_
     | refine W_cond_f rfl ?_
     | (refine W_cond rfl (fun hc => ?_) (fun hc => ?_) <;> (try simp only [decide_eq_true_eq, decide_eq_false_iff_not, Bool.not_eq_true', Bool.not_eq_false', beq_iff_eq, beq_eq_false_iff_ne, bne_iff_ne, bne_eq_false_iff_eq, ne_eq, Int.not_lt, Int.not_le, ge_iff_le, gt_iff_lt] at hc) <;> (try (exfalso; omega))))
    refine ⟨_, _, rfl, rfl, ?_⟩; simp [Frz_tup, Frz_ag, Frzs_cons, Frzs_nil, Frz_d, Frz_e0, Frz_sl, sln, isSl, slOk]
end Go.Proofs.Ytflikcmbbljgeaa
