/- Written by a program (pre.py) from the source of the same name. -/
/- Pairs: the document's keys. -/
import Derived.Test.YtflikcmbbljgeaaItem8
set_option linter.unusedSimpArgs false
set_option linter.unusedVariables false
set_option linter.unnecessarySimpa false
namespace Go.Proofs.Ytflikcmbbljgeaa
open Go.Gar
set_option maxRecDepth 4000

/-- How many are less. -/
def lessN (o : List (List UInt8)) (x : List UInt8) : Nat := (o.takeWhile fun y => decide (y < x)).length
theorem lessN_le (o : List (List UInt8)) (x : List UInt8) : lessN o x ≤ o.length := by
  unfold lessN
  exact (List.takeWhile_sublist _).length_le
theorem lessN_lt {o : List (List UInt8)} {x : List UInt8} : ∀ {k : Nat} {y : List UInt8}, k < lessN o x → o[k]? = some y → y < x := by
  induction o with
  | nil => intro k y h _; simp [lessN] at h
  | cons a r ih =>
    intro k y h hy
    unfold lessN at h ih
    rw [List.takeWhile_cons] at h
    by_cases ha : a < x
    · rw [if_pos (by simpa using ha)] at h
      cases k with
      | zero => simp at hy; subst hy; exact ha
      | succ k => exact ih (by simpa using h) (by simpa using hy)
    · rw [if_neg (by simpa using ha)] at h; simp at h
theorem lessN_at {o : List (List UInt8)} {x y : List UInt8} (hy : o[lessN o x]? = some y) : ¬ y < x := by
  induction o with
  | nil => simp at hy
  | cons a r ih =>
    unfold lessN at hy ih
    rw [List.takeWhile_cons] at hy
    by_cases ha : a < x
    · rw [if_pos (by simpa using ha)] at hy
      exact ih (by simpa using hy)
    · rw [if_neg (by simpa using ha)] at hy
      simp at hy; subst hy; exact ha
/-- One more. -/
def insK (o : List (List UInt8)) (x : List UInt8) : List (List UInt8) := if o[lessN o x]? = some x then o else o.take (lessN o x) ++ x :: o.drop (lessN o x)
theorem insK_len (o : List (List UInt8)) (x : List UInt8) : (insK o x).length ≤ o.length + 1 := by
  unfold insK
  split
  · omega
  · simp; omega
theorem insK_spec {o : List (List UInt8)} (x : List UInt8) (h : o.Pairwise (· < ·)) : (insK o x).Pairwise (· < ·) ∧ ∀ z, z ∈ insK o x ↔ z = x ∨ z ∈ o := by
  unfold insK
  by_cases hx : o[lessN o x]? = some x
  · rw [if_pos hx]
    refine ⟨h, fun z => ⟨.inr, ?_⟩⟩
    rintro (rfl | hz)
    · exact List.mem_of_getElem? hx
    · exact hz
  · rw [if_neg hx]
    have hlo : ∀ y ∈ o.take (lessN o x), y < x := by
      intro y hy
      obtain ⟨i, hi, e⟩ := List.getElem_of_mem hy
      rw [List.length_take] at hi
      have : o[i]? = some y := by rw [← e, List.getElem_take]; exact List.getElem?_eq_getElem (by omega)
      exact lessN_lt (by omega) this
    have hhi : ∀ y ∈ o.drop (lessN o x), x < y := by
      intro y hy
      have hy0 := hy
      obtain ⟨i, hi, e⟩ := List.getElem_of_mem hy
      rw [List.length_drop] at hi
      obtain ⟨a, ha⟩ := get_of (xs := o) (k := lessN o x) (by omega)
      have h1 := lessN_at ha
      have hax : x < a := str_lt (List.not_lt.1 h1) (fun e => hx (by rw [ha, e]))
      rw [List.getElem_drop] at e
      by_cases hi0 : i = 0
      · subst hi0
        have : a = y := by
          have h2 := (List.getElem?_eq_some_iff.1 ha).2
          rw [← h2, ← e]; rfl
        exact this ▸ hax
      · have h3 := List.pairwise_iff_getElem.1 h (lessN o x) (lessN o x + i) (by omega) (by omega) (by omega)
        have h2 := (List.getElem?_eq_some_iff.1 ha).2
        rw [h2, e] at h3
        exact List.lt_trans hax h3
    refine ⟨?_, fun z => ?_⟩
    · rw [List.pairwise_append]
      refine ⟨h.sublist (List.take_sublist _ _), List.pairwise_cons.2 ⟨hhi, h.sublist (List.drop_sublist _ _)⟩, fun a ha b hb => ?_⟩
      rcases List.mem_cons.1 hb with rfl | hb
      · exact hlo a ha
      · exact List.lt_trans (hlo a ha) (hhi b hb)
    · rw [List.mem_append, List.mem_cons]
      constructor
      · rintro (h1 | h1 | h1)
        · exact .inr (List.mem_of_mem_take h1)
        · exact .inl h1
        · exact .inr (List.mem_of_mem_drop h1)
      · rintro (h1 | h1)
        · exact .inr (.inl h1)
        · rw [← List.take_append_drop (lessN o x) o, List.mem_append] at h1
          rcases h1 with h1 | h1
          · exact .inl h1
          · exact .inr (.inr h1)
def rkT (l : List Item) : List (List UInt8) := l.foldl (fun o x => insK o x.key) []
theorem rk_succ {l : List Item} {k : Nat} {x : Item} (hx : l[k]? = some x) : rkT (l.take (k + 1)) = insK (rkT (l.take k)) x.key := by
  unfold rkT; rw [take_succ_of hx, List.foldl_append]; rfl
theorem rk_snoc (l : List Item) (x : Item) : rkT (l ++ [x]) = insK (rkT l) x.key := by
  unfold rkT; rw [List.foldl_append]; rfl
theorem rk_spec (l : List Item) : (rkT l).Pairwise (· < ·) ∧ ∀ z, z ∈ rkT l ↔ z ∈ l.map Item.key := by
  have key : ∀ r : List Item, (rkT r.reverse).Pairwise (· < ·) ∧ ∀ z, z ∈ rkT r.reverse ↔ z ∈ r.reverse.map Item.key := by
    intro r
    induction r with
    | nil => exact ⟨by simp [rkT], by simp [rkT]⟩
    | cons x r ih =>
      rw [List.reverse_cons, rk_snoc]
      obtain ⟨h1, h2⟩ := insK_spec x.key ih.1
      refine ⟨h1, fun z => ?_⟩
      rw [h2, ih.2, List.map_append, List.mem_append]
      simp [or_comm]
  have := key l.reverse
  rwa [List.reverse_reverse] at this
theorem rk_eq (l : List Item) : rkT l = keysT l := by
  obtain ⟨h1, h2⟩ := rk_spec l
  obtain ⟨h3, h4⟩ := keysB_spec (l.map Item.key)
  exact lt_unique h1 h3 fun x => (h2 x).trans (h4 x).symm
theorem rk_len (l : List Item) : (rkT l).length ≤ l.length := by
  have key : ∀ r : List Item, (rkT r.reverse).length ≤ r.length := by
    intro r
    induction r with
    | nil => simp [rkT]
    | cons x r ih =>
      rw [List.reverse_cons, rk_snoc, List.length_cons]
      exact Nat.le_trans (insK_len _ _) (by omega)
  have := key l.reverse
  rwa [List.reverse_reverse, List.length_reverse] at this

set_option maxHeartbeats 8000000 in
theorem rKeys_fn (l : List Item) (hl : l.length ≤ 1000) : Go.Gar.Fn Try.prog 18 [itemsD l] (strsD (keysT l)) := by
  rw [← rk_eq]
  refine Fn_of_W eok Try.func18 rfl rfl (Nat.le_of_ble_eq_true rfl) ?_
  have nS := True.intro
  repeat' (first | ((with_reducible refine sg ?_); first | with_reducible rfl | ((with_reducible refine fitG ?_); first | kernel_rfl | rfl | (simp [fitT, fitF, nS]; done)) | with_reducible refine andT ?_ ?_ | with_reducible exact Nat.beq_refl _ | with_reducible exact fitsI_u8 _ | ((with_reducible refine decide_eq_true ?_); first | omega | (simp only [SZl, nS]; omega)) | decide | (simp [SZl, slc, allOneD, D.one, allOne, AV.one, nS]; done) | (simp [SZl, nS]; omega)) | ((with_reducible refine gWl ?_); first | (refine Wl_isMv rfl ?_; refine Xmv eok rfl rfl rfl rfl ?_) | refine Xq eok rfl rfl rfl rfl ?_ ?_ | refine Xn [0, 2, 3, 4, 5, 9, 27, 45] rfl ?_ | refine Xw eok rfl rfl rfl rfl ?_ ?_ | refine Xs rfl rfl rfl ?_ | (refine Xsplit rfl rfl (fun hc => ?_) (fun hc => ?_) <;> (fail_if_success (with_reducible first | exact tF hc | exact fT hc)) <;> (try simp only [HCl] at hc) <;> (try (exfalso; omega)))) | ((with_reducible refine gWd ?_); first | (refine Wd_isMv rfl ?_; refine Ymv eok rfl rfl (fun _ => rfl) rfl rfl ?_) | refine Yp eok rfl rfl (fun _ => rfl) rfl rfl ?_ ?_ | refine Yq rfl rfl rfl rfl rfl ?_ ?_ | refine Ys rfl rfl rfl rfl ?_ | refine Ya eok rfl rfl rfl rfl rfl rfl ?_ ?_ | refine Yw eok rfl rfl rfl rfl rfl ?_ ?_ | refine Yn [0, 2, 3, 4, 5, 9, 27, 45] [] mixed eok (by kernel_rfl) True.intro rfl ?_ | (refine Ysplit rfl rfl (fun hc => ?_) (fun hc => ?_) <;> (fail_if_success (with_reducible first | exact tF hc | exact fT hc)) <;> (try simp only [HCl] at hc) <;> (try (exfalso; omega)))) | refine W_seq ?_ | refine W_region ?_ | refine W_any T.get ?_ | refine W_skip ?_ | refine W_ret ?_ | refine W_block ?_ | refine W_exit ?_ | refine W_cond_t rfl ?_ | refine W_cond_f rfl ?_ | (refine W_cond rfl (fun hc => ?_) (fun hc => ?_) <;> (try simp only [HCl] at hc) <;> (try (exfalso; omega))))
  refine W_ghost (TSub.e0 3 (.sl 1 []) rfl rfl rfl (by simp [slOk])) (by simp) ?_
  refine W_loopI (fun k => k ≤ l.length) (fun k : Nat => ⟨[(0, .d (itemsD l)), (2, .e0), (3, .d (strsD (rkT (l.take k)))), (4, .d (.i .i64 k))], [], 63⟩) (fun k => l.length - k) 0 (Nat.zero_le _) ?_ (Nat.le_refl _) ?_
  · exact TSub.cut rfl (by repeat' (first | exact True.intro | refine And.intro (by (first | rfl | ((with_reducible_and_instances refine congrArg (fun z => some (AV.d (D.i _ z))) ?_); omega) | (refine congrArg (fun z => some (AV.d (D.i _ z))) (?_ : (_ : Int) = _); omega) | (refine congrArg some ?_; simp only [rkT, List.take_zero, List.foldl_nil]; done) | (refine congrArg some ?_; simp [rkT, List.take_zero, List.foldl_nil]; done))) ?_)) (by repeat' (first | exact True.intro | refine And.intro (Or.inr rfl) ?_ | refine And.intro (Or.inl ⟨rfl, rfl⟩) ?_ | refine And.intro (Or.inr (by simp only [rkT, List.take_zero, List.foldl_nil])) ?_ | refine And.intro (Or.inr (by simp [rkT, List.take_zero, List.foldl_nil])) ?_)) (by first | rfl | (simp (decide := true) [heapOk, Blk.ok, AV.oks, AV.ok, hk]; done)) rfl
  intro k hk
  by_cases hkl : k < l.length
  · obtain ⟨x, hx⟩ := get_of hkl
    have hn := rk_succ hx
    have hln := rk_len (l.take k)
    have htl : (l.take k).length ≤ k := List.length_take_le _ _
    generalize rkT (l.take k) = o at *
    have hle := lessN_le o x.key
    have nS := True.intro
    repeat' (first | ((with_reducible refine sg ?_); first | with_reducible rfl | ((with_reducible refine fitG ?_); first | kernel_rfl | rfl | (simp [fitT, fitF, nS]; done)) | with_reducible refine andT ?_ ?_ | with_reducible exact Nat.beq_refl _ | with_reducible exact fitsI_u8 _ | ((with_reducible refine decide_eq_true ?_); first | omega | (simp only [SZl, nS]; omega)) | decide | (simp [SZl, slc, allOneD, D.one, allOne, AV.one, nS]; done) | (simp [SZl, nS]; omega)) | ((with_reducible refine gWl ?_); first | (refine Wl_isMv rfl ?_; refine Xmv eok rfl rfl rfl rfl ?_) | refine Xq eok rfl rfl rfl rfl ?_ ?_ | refine Xn [0, 2, 3, 4, 5, 9, 27, 45] rfl ?_ | refine Xw eok rfl rfl rfl rfl ?_ ?_ | refine Xs rfl rfl rfl ?_ | (refine Xsplit rfl rfl (fun hc => ?_) (fun hc => ?_) <;> (fail_if_success (with_reducible first | exact tF hc | exact fT hc)) <;> (try simp only [HCl] at hc) <;> (try (exfalso; omega)))) | ((with_reducible refine gWd ?_); first | (refine Wd_isMv rfl ?_; refine Ymv eok rfl rfl (fun _ => rfl) rfl rfl ?_) | refine Yp eok rfl rfl (fun _ => rfl) rfl rfl ?_ ?_ | refine Yq rfl rfl rfl rfl rfl ?_ ?_ | refine Ys rfl rfl rfl rfl ?_ | refine Ya eok rfl rfl rfl rfl rfl rfl ?_ ?_ | refine Yw eok rfl rfl rfl rfl rfl ?_ ?_ | refine Yn [0, 2, 3, 4, 5, 9, 27, 45] [] mixed eok (by kernel_rfl) True.intro rfl ?_ | (refine Ysplit rfl rfl (fun hc => ?_) (fun hc => ?_) <;> (fail_if_success (with_reducible first | exact tF hc | exact fT hc)) <;> (try simp only [HCl] at hc) <;> (try (exfalso; omega)))) | refine W_seq ?_ | refine W_region ?_ | refine W_any T.get ?_ | refine W_skip ?_ | refine W_ret ?_ | refine W_block ?_ | refine W_exit ?_ | refine W_cond_t rfl ?_ | refine W_cond_f rfl ?_ | (refine W_cond rfl (fun hc => ?_) (fun hc => ?_) <;> (try simp only [HCl] at hc) <;> (try (exfalso; omega))))
    refine W_loopI (fun j => j ≤ lessN o x.key) (fun j : Nat => ⟨[(0, .d (itemsD l)), (2, .e0), (3, .d (strsD o)), (4, .d (.i .i64 k)), (5, .d (.i .i64 j))], [], 63⟩) (fun j => lessN o x.key - j) 0 (Nat.zero_le _) ?_ (Nat.le_refl _) ?_
    · exact TSub.cut rfl (by repeat' (first | exact True.intro | refine And.intro (by (first | rfl | ((with_reducible_and_instances refine congrArg (fun z => some (AV.d (D.i _ z))) ?_); omega) | (refine congrArg (fun z => some (AV.d (D.i _ z))) (?_ : (_ : Int) = _); omega) | (refine congrArg some ?_; simp; done))) ?_)) (by repeat' (first | exact True.intro | refine And.intro (Or.inr rfl) ?_ | refine And.intro (Or.inl ⟨rfl, rfl⟩) ?_ | refine And.intro (Or.inr (by simp)) ?_)) (by first | rfl | (simp (decide := true) [heapOk, Blk.ok, AV.oks, AV.ok, hk]; done)) rfl
    intro j hj
    by_cases hjl : j < lessN o x.key
    · obtain ⟨y, hy⟩ := get_of (xs := o) (k := j) (by omega)
      have hb : Op.bytesLess y x.key = true := by rw [bytesLess_eq]; exact decide_eq_true (lessN_lt hjl hy)
      have nS := hb
      repeat' (first | ((with_reducible refine sg ?_); first | with_reducible rfl | ((with_reducible refine fitG ?_); first | kernel_rfl | rfl | (simp [fitT, fitF, nS]; done)) | with_reducible refine andT ?_ ?_ | with_reducible exact Nat.beq_refl _ | with_reducible exact fitsI_u8 _ | ((with_reducible refine decide_eq_true ?_); first | omega | (simp only [SZl, nS]; omega)) | decide | (simp [SZl, slc, allOneD, D.one, allOne, AV.one, nS]; done) | (simp [SZl, nS]; omega)) | ((with_reducible refine gWl ?_); first | (refine Wl_isMv rfl ?_; refine Xmv eok rfl rfl rfl rfl ?_) | (refine Wl_isIx rfl ?_; refine Xix eok rfl rfl rfl rfl rfl (Int.natCast_nonneg _) (ix_map hx) ?_) | (refine Wl_isIx rfl ?_; refine Xix eok rfl rfl rfl rfl rfl (Int.natCast_nonneg _) (ix_map hy) ?_) | refine Xq eok rfl rfl rfl rfl ?_ ?_ | refine Xn [0, 2, 3, 4, 5, 9, 27, 45] rfl ?_ | refine Xw eok rfl rfl rfl rfl ?_ ?_ | refine Xs rfl rfl rfl ?_ | (refine Xsplit rfl rfl (fun hc => ?_) (fun hc => ?_) <;> (fail_if_success (with_reducible first | exact tF hc | exact fT hc)) <;> (try simp only [HCl] at hc) <;> (try (exfalso; omega)))) | ((with_reducible refine gWd ?_); first | (refine Wd_isMv rfl ?_; refine Ymv eok rfl rfl (fun _ => rfl) rfl rfl ?_) | (refine Wd_isIx rfl ?_; refine Yix eok rfl rfl (fun _ => rfl) rfl rfl rfl (Int.natCast_nonneg _) (ix_map hx) ?_) | (refine Wd_isIx rfl ?_; refine Yix eok rfl rfl (fun _ => rfl) rfl rfl rfl (Int.natCast_nonneg _) (ix_map hy) ?_) | refine Yp eok rfl rfl (fun _ => rfl) rfl rfl ?_ ?_ | refine Yq rfl rfl rfl rfl rfl ?_ ?_ | refine Ys rfl rfl rfl rfl ?_ | refine Ya eok rfl rfl rfl rfl rfl rfl ?_ ?_ | refine Yw eok rfl rfl rfl rfl rfl ?_ ?_ | refine Yn [0, 2, 3, 4, 5, 9, 27, 45] [] mixed eok (by kernel_rfl) True.intro rfl ?_ | (refine Ysplit rfl rfl (fun hc => ?_) (fun hc => ?_) <;> (fail_if_success (with_reducible first | exact tF hc | exact fT hc)) <;> (try simp only [HCl] at hc) <;> (try (exfalso; omega)))) | refine W_seq ?_ | refine W_region ?_ | refine W_any T.get ?_ | refine W_skip ?_ | refine W_ret ?_ | refine W_block ?_ | refine W_exit ?_ | refine W_cond_t rfl ?_ | refine W_cond_f rfl ?_ | (refine W_cond rfl (fun hc => ?_) (fun hc => ?_) <;> (try simp only [HCl] at hc) <;> (try (exfalso; omega))))
      refine ⟨j + 1, hjl, by omega, Nat.le_refl _, ?_⟩
      exact TSub.cut rfl (by repeat' (first | exact True.intro | refine And.intro (by (first | rfl | ((with_reducible_and_instances refine congrArg (fun z => some (AV.d (D.i _ z))) ?_); omega) | (refine congrArg (fun z => some (AV.d (D.i _ z))) (?_ : (_ : Int) = _); omega) | (refine congrArg some ?_; simp; done))) ?_)) (by repeat' (first | exact True.intro | refine And.intro (Or.inr rfl) ?_ | refine And.intro (Or.inl ⟨rfl, rfl⟩) ?_ | refine And.intro (Or.inr (by simp)) ?_)) (by first | rfl | (simp (decide := true) [heapOk, Blk.ok, AV.oks, AV.ok, hk]; done)) rfl
    · have e : j = lessN o x.key := by omega
      subst e
      by_cases hend : lessN o x.key < o.length
      · obtain ⟨y, hy⟩ := get_of hend
        have hb : Op.bytesLess y x.key = false := by rw [bytesLess_eq]; exact decide_eq_false (lessN_at hy)
        have f0 := eq_false' (show (lessN o x.key : Int) ≠ (o.length : Int) by omega)
        by_cases hyx : y = x.key
        · have hi : insK o x.key = o := if_pos (by rw [hy, hyx])
          have fb : (y == x.key) = true := by rw [hyx]; simp
          have nS := And.intro hb (And.intro f0 fb)
          repeat' (first | ((with_reducible refine sg ?_); first | with_reducible rfl | ((with_reducible refine fitG ?_); first | kernel_rfl | rfl | (simp [fitT, fitF, nS]; done)) | with_reducible refine andT ?_ ?_ | with_reducible exact Nat.beq_refl _ | with_reducible exact fitsI_u8 _ | ((with_reducible refine decide_eq_true ?_); first | omega | (simp only [SZl, nS]; omega)) | decide | (simp [SZl, slc, allOneD, D.one, allOne, AV.one, nS]; done) | (simp [SZl, nS]; omega)) | ((with_reducible refine gWl ?_); first | (refine Wl_isMv rfl ?_; refine Xmv eok rfl rfl rfl rfl ?_) | (refine Wl_isIx rfl ?_; refine Xix eok rfl rfl rfl rfl rfl (Int.natCast_nonneg _) (ix_map hx) ?_) | (refine Wl_isIx rfl ?_; refine Xix eok rfl rfl rfl rfl rfl (Int.natCast_nonneg _) (ix_map hy) ?_) | refine Xq eok rfl rfl rfl rfl ?_ ?_ | refine Xn [0, 2, 3, 4, 5, 9, 27, 45] rfl ?_ | refine Xw eok rfl rfl rfl rfl ?_ ?_ | refine Xs rfl rfl rfl ?_ | (refine Xsplit rfl rfl (fun hc => ?_) (fun hc => ?_) <;> (fail_if_success (with_reducible first | exact tF hc | exact fT hc)) <;> (try simp only [HCl] at hc) <;> (try (exfalso; omega)))) | ((with_reducible refine gWd ?_); first | (refine Wd_isMv rfl ?_; refine Ymv eok rfl rfl (fun _ => rfl) rfl rfl ?_) | (refine Wd_isIx rfl ?_; refine Yix eok rfl rfl (fun _ => rfl) rfl rfl rfl (Int.natCast_nonneg _) (ix_map hx) ?_) | (refine Wd_isIx rfl ?_; refine Yix eok rfl rfl (fun _ => rfl) rfl rfl rfl (Int.natCast_nonneg _) (ix_map hy) ?_) | refine Yp eok rfl rfl (fun _ => rfl) rfl rfl ?_ ?_ | refine Yq rfl rfl rfl rfl rfl ?_ ?_ | refine Ys rfl rfl rfl rfl ?_ | refine Ya eok rfl rfl rfl rfl rfl rfl ?_ ?_ | refine Yw eok rfl rfl rfl rfl rfl ?_ ?_ | refine Yn [0, 2, 3, 4, 5, 9, 27, 45] [] mixed eok (by kernel_rfl) True.intro rfl ?_ | (refine Ysplit rfl rfl (fun hc => ?_) (fun hc => ?_) <;> (fail_if_success (with_reducible first | exact tF hc | exact fT hc)) <;> (try simp only [HCl] at hc) <;> (try (exfalso; omega)))) | refine W_seq ?_ | refine W_region ?_ | refine W_any T.get ?_ | refine W_skip ?_ | refine W_ret ?_ | refine W_block ?_ | refine W_exit ?_ | refine W_cond_t rfl ?_ | refine W_cond_f rfl ?_ | (refine W_cond rfl (fun hc => ?_) (fun hc => ?_) <;> (try simp only [HCl] at hc) <;> (try (exfalso; omega))))
          refine ⟨k + 1, hkl, by omega, Nat.le_refl _, ?_⟩
          exact TSub.cut rfl (by repeat' (first | exact True.intro | refine And.intro (by (first | rfl | ((with_reducible_and_instances refine congrArg (fun z => some (AV.d (D.i _ z))) ?_); omega) | (refine congrArg (fun z => some (AV.d (D.i _ z))) (?_ : (_ : Int) = _); omega) | (refine congrArg some ?_; simp only [hn, hi]; done) | (refine congrArg some ?_; simp [hn, hi]; done))) ?_)) (by repeat' (first | exact True.intro | refine And.intro (Or.inr rfl) ?_ | refine And.intro (Or.inl ⟨rfl, rfl⟩) ?_ | refine And.intro (Or.inr (by simp only [hn, hi])) ?_ | refine And.intro (Or.inr (by simp [hn, hi])) ?_)) (by first | rfl | (simp (decide := true) [heapOk, Blk.ok, AV.oks, AV.ok, hk]; done)) rfl
        · have hi : insK o x.key = o.take (lessN o x.key) ++ x.key :: o.drop (lessN o x.key) := if_neg (by rw [hy]; intro h; exact hyx (Option.some.inj h))
          have fb : (y == x.key) = false := by simpa using hyx
          have nS := And.intro hb (And.intro f0 fb)
          repeat' (first | ((with_reducible refine sg ?_); first | with_reducible rfl | ((with_reducible refine fitG ?_); first | kernel_rfl | rfl | (simp [fitT, fitF, nS]; done)) | with_reducible refine andT ?_ ?_ | with_reducible exact Nat.beq_refl _ | with_reducible exact fitsI_u8 _ | ((with_reducible refine decide_eq_true ?_); first | omega | (simp only [SZl, nS]; omega)) | decide | (simp [SZl, slc, allOneD, D.one, allOne, AV.one, nS]; done) | (simp [SZl, nS]; omega)) | ((with_reducible refine gWl ?_); first | (refine Wl_isMv rfl ?_; refine Xmv eok rfl rfl rfl rfl ?_) | (refine Wl_isIx rfl ?_; refine Xix eok rfl rfl rfl rfl rfl (Int.natCast_nonneg _) (ix_map hx) ?_) | (refine Wl_isIx rfl ?_; refine Xix eok rfl rfl rfl rfl rfl (Int.natCast_nonneg _) (ix_map hy) ?_) | refine XaoL [50] eok rfl rfl rfl rfl rfl rfl ?_ ?_ | refine Xq eok rfl rfl rfl rfl ?_ ?_ | refine Xn [0, 2, 3, 4, 5, 9, 27, 45] rfl ?_ | refine Xw eok rfl rfl rfl rfl ?_ ?_ | refine Xs rfl rfl rfl ?_ | (refine Xsplit rfl rfl (fun hc => ?_) (fun hc => ?_) <;> (fail_if_success (with_reducible first | exact tF hc | exact fT hc)) <;> (try simp only [HCl] at hc) <;> (try (exfalso; omega)))) | ((with_reducible refine gWd ?_); first | (refine Wd_isMv rfl ?_; refine Ymv eok rfl rfl (fun _ => rfl) rfl rfl ?_) | (refine Wd_isIx rfl ?_; refine Yix eok rfl rfl (fun _ => rfl) rfl rfl rfl (Int.natCast_nonneg _) (ix_map hx) ?_) | (refine Wd_isIx rfl ?_; refine Yix eok rfl rfl (fun _ => rfl) rfl rfl rfl (Int.natCast_nonneg _) (ix_map hy) ?_) | refine YaoL [50] eok rfl rfl rfl rfl rfl rfl rfl ?_ ?_ | refine Yp eok rfl rfl (fun _ => rfl) rfl rfl ?_ ?_ | refine Yq rfl rfl rfl rfl rfl ?_ ?_ | refine Ys rfl rfl rfl rfl ?_ | refine Ya eok rfl rfl rfl rfl rfl rfl ?_ ?_ | refine Yw eok rfl rfl rfl rfl rfl ?_ ?_ | refine Yn [0, 2, 3, 4, 5, 9, 27, 45] [(8, 4), (9, 4)] mixed eok (by kernel_rfl) (by simp only [extraL]; repeat' (first | exact True.intro | refine And.intro ?_ ?_ | exact ⟨_, rfl, rfl⟩ | rfl)) rfl ?_ | (refine Ysplit rfl rfl (fun hc => ?_) (fun hc => ?_) <;> (fail_if_success (with_reducible first | exact tF hc | exact fT hc)) <;> (try simp only [HCl] at hc) <;> (try (exfalso; omega)))) | refine W_seq ?_ | refine W_region ?_ | refine W_any T.get ?_ | refine W_skip ?_ | refine W_ret ?_ | refine W_block ?_ | refine W_exit ?_ | refine W_cond_t rfl ?_ | refine W_cond_f rfl ?_ | (refine W_cond rfl (fun hc => ?_) (fun hc => ?_) <;> (try simp only [HCl] at hc) <;> (try (exfalso; omega))))
          refine ⟨k + 1, hkl, by omega, Nat.le_refl _, ?_⟩
          refine TSub.trans (TSub.frz1 3 0 (by first | rfl | simp [sln]) (by first | rfl | simp [sln]) (by first | rfl | simp [sln])) (fun _ => trivial) ?_ (by simp [frzH])
          exact TSub.cut rfl (by repeat' (first | exact True.intro | refine And.intro (by (first | rfl | ((with_reducible_and_instances refine congrArg (fun z => some (AV.d (D.i _ z))) ?_); omega) | (refine congrArg (fun z => some (AV.d (D.i _ z))) (?_ : (_ : Int) = _); omega) | (refine congrArg some ?_; simp only [hn, hi, strsD, List.map_append, List.map_cons, List.map_take, List.map_drop, List.append_assoc, List.cons_append, List.nil_append]; done) | (refine congrArg some ?_; simp [hn, hi, strsD, List.map_append, List.map_cons, List.map_take, List.map_drop, List.append_assoc, List.cons_append, List.nil_append]; done))) ?_)) (by repeat' (first | exact True.intro | refine And.intro (Or.inr rfl) ?_ | refine And.intro (Or.inl ⟨rfl, rfl⟩) ?_ | refine And.intro (Or.inr (by simp only [hn, hi, strsD, List.map_append, List.map_cons, List.map_take, List.map_drop, List.append_assoc, List.cons_append, List.nil_append])) ?_ | refine And.intro (Or.inr (by simp [hn, hi, strsD, List.map_append, List.map_cons, List.map_take, List.map_drop, List.append_assoc, List.cons_append, List.nil_append])) ?_)) (by first | rfl | (simp (decide := true) [heapOk, Blk.ok, AV.oks, AV.ok, hk]; done)) rfl
      · have f0 := eq_true' (show (lessN o x.key : Int) = (o.length : Int) by omega)
        have hi : insK o x.key = o.take (lessN o x.key) ++ x.key :: o.drop (lessN o x.key) := if_neg (by rw [List.getElem?_eq_none (by omega)]; intro h; cases h)
        have nS := f0
        repeat' (first | ((with_reducible refine sg ?_); first | with_reducible rfl | ((with_reducible refine fitG ?_); first | kernel_rfl | rfl | (simp [fitT, fitF, nS]; done)) | with_reducible refine andT ?_ ?_ | with_reducible exact Nat.beq_refl _ | with_reducible exact fitsI_u8 _ | ((with_reducible refine decide_eq_true ?_); first | omega | (simp only [SZl, nS]; omega)) | decide | (simp [SZl, slc, allOneD, D.one, allOne, AV.one, nS]; done) | (simp [SZl, nS]; omega)) | ((with_reducible refine gWl ?_); first | (refine Wl_isMv rfl ?_; refine Xmv eok rfl rfl rfl rfl ?_) | (refine Wl_isIx rfl ?_; refine Xix eok rfl rfl rfl rfl rfl (Int.natCast_nonneg _) (ix_map hx) ?_) | refine Xq eok rfl rfl rfl rfl ?_ ?_ | refine Xn [0, 2, 3, 4, 5, 9, 27, 45] rfl ?_ | refine Xw eok rfl rfl rfl rfl ?_ ?_ | refine Xs rfl rfl rfl ?_ | (refine Xsplit rfl rfl (fun hc => ?_) (fun hc => ?_) <;> (fail_if_success (with_reducible first | exact tF hc | exact fT hc)) <;> (try simp only [HCl] at hc) <;> (try (exfalso; omega)))) | ((with_reducible refine gWd ?_); first | (refine Wd_isMv rfl ?_; refine Ymv eok rfl rfl (fun _ => rfl) rfl rfl ?_) | (refine Wd_isIx rfl ?_; refine Yix eok rfl rfl (fun _ => rfl) rfl rfl rfl (Int.natCast_nonneg _) (ix_map hx) ?_) | refine Yp eok rfl rfl (fun _ => rfl) rfl rfl ?_ ?_ | refine Yq rfl rfl rfl rfl rfl ?_ ?_ | refine Ys rfl rfl rfl rfl ?_ | refine Ya eok rfl rfl rfl rfl rfl rfl ?_ ?_ | refine Yw eok rfl rfl rfl rfl rfl ?_ ?_ | refine Yn [0, 2, 3, 4, 5, 9, 27, 45] [] mixed eok (by kernel_rfl) True.intro rfl ?_ | (refine Ysplit rfl rfl (fun hc => ?_) (fun hc => ?_) <;> (fail_if_success (with_reducible first | exact tF hc | exact fT hc)) <;> (try simp only [HCl] at hc) <;> (try (exfalso; omega)))) | refine W_seq ?_ | refine W_regionS [9] rfl ?_ | refine W_anyS [9] T.get rfl ?_ | refine W_skip ?_ | refine W_ret ?_ | refine W_block ?_ | refine W_exit ?_ | refine W_cond_t rfl ?_ | refine W_cond_f rfl ?_ | (refine W_cond rfl (fun hc => ?_) (fun hc => ?_) <;> (try simp only [HCl] at hc) <;> (try (exfalso; omega))))
        have nS := True.intro
        repeat' (first | ((with_reducible refine sg ?_); first | with_reducible rfl | ((with_reducible refine fitG ?_); first | kernel_rfl | rfl | (simp [fitT, fitF, nS]; done)) | with_reducible refine andT ?_ ?_ | with_reducible exact Nat.beq_refl _ | with_reducible exact fitsI_u8 _ | ((with_reducible refine decide_eq_true ?_); first | omega | (simp only [SZl, nS]; omega)) | decide | (simp [SZl, slc, allOneD, D.one, allOne, AV.one, nS]; done) | (simp [SZl, nS]; omega)) | ((with_reducible refine gWl ?_); first | (refine Wl_isMv rfl ?_; refine Xmv eok rfl rfl rfl rfl ?_) | (refine Wl_isIx rfl ?_; refine Xix eok rfl rfl rfl rfl rfl (Int.natCast_nonneg _) (ix_map hx) ?_) | refine XaoL [50] eok rfl rfl rfl rfl rfl rfl ?_ ?_ | refine Xq eok rfl rfl rfl rfl ?_ ?_ | refine Xn [0, 2, 3, 4, 5, 9, 27, 45] rfl ?_ | refine Xw eok rfl rfl rfl rfl ?_ ?_ | refine Xs rfl rfl rfl ?_ | (refine Xsplit rfl rfl (fun hc => ?_) (fun hc => ?_) <;> (fail_if_success (with_reducible first | exact tF hc | exact fT hc)) <;> (try simp only [HCl] at hc) <;> (try (exfalso; omega)))) | ((with_reducible refine gWd ?_); first | (refine Wd_isMv rfl ?_; refine Ymv eok rfl rfl (fun _ => rfl) rfl rfl ?_) | (refine Wd_isIx rfl ?_; refine Yix eok rfl rfl (fun _ => rfl) rfl rfl rfl (Int.natCast_nonneg _) (ix_map hx) ?_) | refine YaoL [50] eok rfl rfl rfl rfl rfl rfl rfl ?_ ?_ | refine Yp eok rfl rfl (fun _ => rfl) rfl rfl ?_ ?_ | refine Yq rfl rfl rfl rfl rfl ?_ ?_ | refine Ys rfl rfl rfl rfl ?_ | refine Ya eok rfl rfl rfl rfl rfl rfl ?_ ?_ | refine Yw eok rfl rfl rfl rfl rfl ?_ ?_ | refine Yn [0, 2, 3, 4, 5, 9, 27, 45] [(8, 4), (9, 4)] mixed eok (by kernel_rfl) (by simp only [extraL]; repeat' (first | exact True.intro | refine And.intro ?_ ?_ | exact ⟨_, rfl, rfl⟩ | rfl)) rfl ?_ | (refine Ysplit rfl rfl (fun hc => ?_) (fun hc => ?_) <;> (fail_if_success (with_reducible first | exact tF hc | exact fT hc)) <;> (try simp only [HCl] at hc) <;> (try (exfalso; omega)))) | refine W_seq ?_ | refine W_region ?_ | refine W_any T.get ?_ | refine W_skip ?_ | refine W_ret ?_ | refine W_block ?_ | refine W_exit ?_ | refine W_cond_t rfl ?_ | refine W_cond_f rfl ?_ | (refine W_cond rfl (fun hc => ?_) (fun hc => ?_) <;> (try simp only [HCl] at hc) <;> (try (exfalso; omega))))
        refine ⟨k + 1, hkl, by omega, Nat.le_refl _, ?_⟩
        refine TSub.trans (TSub.frz1 3 0 (by first | rfl | simp [sln]) (by first | rfl | simp [sln]) (by first | rfl | simp [sln])) (fun _ => trivial) ?_ (by simp [frzH])
        exact TSub.cut rfl (by repeat' (first | exact True.intro | refine And.intro (by (first | rfl | ((with_reducible_and_instances refine congrArg (fun z => some (AV.d (D.i _ z))) ?_); omega) | (refine congrArg (fun z => some (AV.d (D.i _ z))) (?_ : (_ : Int) = _); omega) | (refine congrArg some ?_; simp only [hn, hi, strsD, List.map_append, List.map_cons, List.map_take, List.map_drop, List.append_assoc, List.cons_append, List.nil_append]; done) | (refine congrArg some ?_; simp [hn, hi, strsD, List.map_append, List.map_cons, List.map_take, List.map_drop, List.append_assoc, List.cons_append, List.nil_append]; done))) ?_)) (by repeat' (first | exact True.intro | refine And.intro (Or.inr rfl) ?_ | refine And.intro (Or.inl ⟨rfl, rfl⟩) ?_ | refine And.intro (Or.inr (by simp only [hn, hi, strsD, List.map_append, List.map_cons, List.map_take, List.map_drop, List.append_assoc, List.cons_append, List.nil_append])) ?_ | refine And.intro (Or.inr (by simp [hn, hi, strsD, List.map_append, List.map_cons, List.map_take, List.map_drop, List.append_assoc, List.cons_append, List.nil_append])) ?_)) (by first | rfl | (simp (decide := true) [heapOk, Blk.ok, AV.oks, AV.ok, hk]; done)) rfl
  · have e : k = l.length := by omega
    subst e
    rw [List.take_length]
    have nS := True.intro
    repeat' (first | ((with_reducible refine sg ?_); first | with_reducible rfl | ((with_reducible refine fitG ?_); first | kernel_rfl | rfl | (simp [fitT, fitF, nS]; done)) | with_reducible refine andT ?_ ?_ | with_reducible exact Nat.beq_refl _ | with_reducible exact fitsI_u8 _ | ((with_reducible refine decide_eq_true ?_); first | omega | (simp only [SZl, nS]; omega)) | decide | (simp [SZl, slc, allOneD, D.one, allOne, AV.one, nS]; done) | (simp [SZl, nS]; omega)) | ((with_reducible refine gWl ?_); first | (refine Wl_isMv rfl ?_; refine Xmv eok rfl rfl rfl rfl ?_) | refine Xq eok rfl rfl rfl rfl ?_ ?_ | refine Xn [0, 2, 3, 4, 5, 9, 27, 45] rfl ?_ | refine Xw eok rfl rfl rfl rfl ?_ ?_ | refine Xs rfl rfl rfl ?_ | (refine Xsplit rfl rfl (fun hc => ?_) (fun hc => ?_) <;> (fail_if_success (with_reducible first | exact tF hc | exact fT hc)) <;> (try simp only [HCl] at hc) <;> (try (exfalso; omega)))) | ((with_reducible refine gWd ?_); first | (refine Wd_isMv rfl ?_; refine Ymv eok rfl rfl (fun _ => rfl) rfl rfl ?_) | refine Yp eok rfl rfl (fun _ => rfl) rfl rfl ?_ ?_ | refine Yq rfl rfl rfl rfl rfl ?_ ?_ | refine Ys rfl rfl rfl rfl ?_ | refine Ya eok rfl rfl rfl rfl rfl rfl ?_ ?_ | refine Yw eok rfl rfl rfl rfl rfl ?_ ?_ | refine Yn [0, 2, 3, 4, 5, 9, 27, 45] [] mixed eok (by kernel_rfl) True.intro rfl ?_ | (refine Ysplit rfl rfl (fun hc => ?_) (fun hc => ?_) <;> (fail_if_success (with_reducible first | exact tF hc | exact fT hc)) <;> (try simp only [HCl] at hc) <;> (try (exfalso; omega)))) | refine W_seq ?_ | refine W_region ?_ | refine W_any T.get ?_ | refine W_skip ?_ | refine W_ret ?_ | refine W_block ?_ | refine W_exit ?_ | refine W_cond_t rfl ?_ | refine W_cond_f rfl ?_ | (refine W_cond rfl (fun hc => ?_) (fun hc => ?_) <;> (try simp only [HCl] at hc) <;> (try (exfalso; omega))))
    refine ⟨_, _, rfl, rfl, ?_⟩; simp [Frz_tup, Frz_ag, Frzs_cons, Frzs_nil, Frz_d, Frz_e0, Frz_sl, sln, isSl, slOk]
end Go.Proofs.Ytflikcmbbljgeaa
