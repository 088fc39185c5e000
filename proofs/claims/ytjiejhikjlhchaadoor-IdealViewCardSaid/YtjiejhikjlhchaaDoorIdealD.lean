/- Written by a program (pre.py) from the source of the same name. -/
/- How a circle ought to be: the document's own members; the others. -/
import Derived.Test.YtjiejhikjlhchaaDoorIdealC
set_option linter.unusedSimpArgs false
set_option linter.unusedVariables false
set_option linter.unnecessarySimpa false
namespace Go.Proofs.YtjiejhikjlhchaaDoor
open Go.Gar
set_option maxRecDepth 4000

set_option maxHeartbeats 4000000 in
theorem among_fn (l : List Int) (x : Int) (hl : l.length ≤ 9223372036854775807) : Go.Gar.Fn Tryd.prog 40 [.is l, .i .i64 x] (.b (decide (x ∈ l))) := by
  refine Fn_of_W eok Tryd.func40 rfl rfl (Nat.le_of_ble_eq_true rfl) ?_
  have nS := True.intro
  repeat' (first | ((with_reducible refine sg ?_); first | with_reducible rfl | ((with_reducible refine fitG ?_); first | kernel_rfl | rfl | (simp [fitT, fitF, nS]; done)) | with_reducible refine andT ?_ ?_ | with_reducible exact Nat.beq_refl _ | with_reducible exact fitsI_u8 _ | ((with_reducible refine decide_eq_true ?_); first | omega | (simp only [SZl, nS]; omega)) | decide | (simp [SZl, slc, allOneD, D.one, allOne, AV.one, nS]; done) | (simp [SZl, nS]; omega)) | ((with_reducible refine gWl ?_); first | (refine Wl_isMv rfl ?_; refine Xmv eok rfl rfl rfl rfl ?_) | refine Xq eok rfl rfl rfl rfl ?_ ?_ | refine Xn [0, 1, 4, 5, 9, 17] rfl ?_) | refine W_seq ?_ | refine W_region ?_ | refine W_skip ?_ | refine W_ret ?_ | refine W_block ?_ | refine W_exit ?_ | refine W_cond_t rfl ?_ | refine W_cond_f rfl ?_ | (refine W_cond rfl (fun hc => ?_) (fun hc => ?_) <;> (try simp only [HCl] at hc) <;> (try (exfalso; omega))))
  refine W_loopI (fun k => k ≤ l.length ∧ x ∉ l.take k) (fun k : Nat => ⟨[(0, .d (.is l)), (1, .d (.i .i64 x)), (4, .d (.b false)), (5, .d (.i .i64 k))], [], 18⟩) (fun k => l.length - k) 0 ⟨Nat.zero_le _, by simp⟩ ?_ (Nat.le_refl _) ?_
  · exact TSub.cut rfl (by repeat' (first | exact True.intro | refine And.intro (by (first | rfl | ((with_reducible_and_instances refine congrArg (fun z => some (AV.d (D.i _ z))) ?_); omega) | (refine congrArg (fun z => some (AV.d (D.i _ z))) (?_ : (_ : Int) = _); omega) | (refine congrArg some ?_; simp; done))) ?_)) (by repeat' (first | exact True.intro | refine And.intro (Or.inr rfl) ?_ | refine And.intro (Or.inl ⟨rfl, rfl⟩) ?_ | refine And.intro (Or.inr (by simp)) ?_)) (by first | rfl | (simp (decide := true) [heapOk, Blk.ok, AV.oks, AV.ok, hk]; done)) rfl
  rintro k ⟨hk, hpre⟩
  by_cases hkl : k < l.length
  · obtain ⟨p, hp⟩ := get_of hkl
    have gp := getD_of hp
    by_cases e : p = x
    · have g := eq_true' e
      have hT : decide (x ∈ l) = true := decide_eq_true (e ▸ List.mem_of_getElem? hp)
      have nS := And.intro gp g
      repeat' (first | ((with_reducible refine sg ?_); first | with_reducible rfl | ((with_reducible refine fitG ?_); first | kernel_rfl | rfl | (simp [fitT, fitF, nS]; done)) | with_reducible refine andT ?_ ?_ | with_reducible exact Nat.beq_refl _ | with_reducible exact fitsI_u8 _ | ((with_reducible refine decide_eq_true ?_); first | omega | (simp only [SZl, nS]; omega)) | decide | (simp [SZl, slc, allOneD, D.one, allOne, AV.one, nS]; done) | (simp [SZl, nS]; omega)) | ((with_reducible refine gWl ?_); first | (refine Wl_isMv rfl ?_; refine Xmv eok rfl rfl rfl rfl ?_) | refine Xq eok rfl rfl rfl rfl ?_ ?_ | refine Xn [0, 1, 4, 5, 9, 17] rfl ?_) | refine W_seq ?_ | refine W_region ?_ | refine W_skip ?_ | refine W_ret ?_ | refine W_block ?_ | refine W_exit ?_ | refine W_cond_t rfl ?_ | refine W_cond_f rfl ?_ | (refine W_cond rfl (fun hc => ?_) (fun hc => ?_) <;> (try simp only [HCl] at hc) <;> (try (exfalso; omega))))
      refine ⟨_, _, rfl, rfl, ?_⟩; simp [Frz_tup, Frz_ag, Frzs_cons, Frzs_nil, Frz_d, Frz_e0, Frz_sl, sln, isSl, slOk, hT]
    · have g := eq_false' e
      have hn : x ∉ l.take (k + 1) := by
        rw [take_succ_of hp]
        intro hm
        rcases List.mem_append.mp hm with hm | hm
        · exact hpre hm
        · exact e (List.mem_singleton.mp hm).symm
      have nS := And.intro gp g
      repeat' (first | ((with_reducible refine sg ?_); first | with_reducible rfl | ((with_reducible refine fitG ?_); first | kernel_rfl | rfl | (simp [fitT, fitF, nS]; done)) | with_reducible refine andT ?_ ?_ | with_reducible exact Nat.beq_refl _ | with_reducible exact fitsI_u8 _ | ((with_reducible refine decide_eq_true ?_); first | omega | (simp only [SZl, nS]; omega)) | decide | (simp [SZl, slc, allOneD, D.one, allOne, AV.one, nS]; done) | (simp [SZl, nS]; omega)) | ((with_reducible refine gWl ?_); first | (refine Wl_isMv rfl ?_; refine Xmv eok rfl rfl rfl rfl ?_) | refine Xq eok rfl rfl rfl rfl ?_ ?_ | refine Xn [0, 1, 4, 5, 9, 17] rfl ?_) | refine W_seq ?_ | refine W_region ?_ | refine W_skip ?_ | refine W_ret ?_ | refine W_block ?_ | refine W_exit ?_ | refine W_cond_t rfl ?_ | refine W_cond_f rfl ?_ | (refine W_cond rfl (fun hc => ?_) (fun hc => ?_) <;> (try simp only [HCl] at hc) <;> (try (exfalso; omega))))
      refine ⟨k + 1, ⟨hkl, hn⟩, by omega, Nat.le_refl _, ?_⟩
      exact TSub.cut rfl (by repeat' (first | exact True.intro | refine And.intro (by (first | rfl | ((with_reducible_and_instances refine congrArg (fun z => some (AV.d (D.i _ z))) ?_); omega) | (refine congrArg (fun z => some (AV.d (D.i _ z))) (?_ : (_ : Int) = _); omega) | (refine congrArg some ?_; simp; done))) ?_)) (by repeat' (first | exact True.intro | refine And.intro (Or.inr rfl) ?_ | refine And.intro (Or.inl ⟨rfl, rfl⟩) ?_ | refine And.intro (Or.inr (by simp)) ?_)) (by first | rfl | (simp (decide := true) [heapOk, Blk.ok, AV.oks, AV.ok, hk]; done)) rfl
  · have e : k = l.length := by omega
    subst e
    rw [List.take_length] at hpre
    have hT : decide (x ∈ l) = false := decide_eq_false hpre
    have nS := True.intro
    repeat' (first | ((with_reducible refine sg ?_); first | with_reducible rfl | ((with_reducible refine fitG ?_); first | kernel_rfl | rfl | (simp [fitT, fitF, nS]; done)) | with_reducible refine andT ?_ ?_ | with_reducible exact Nat.beq_refl _ | with_reducible exact fitsI_u8 _ | ((with_reducible refine decide_eq_true ?_); first | omega | (simp only [SZl, nS]; omega)) | decide | (simp [SZl, slc, allOneD, D.one, allOne, AV.one, nS]; done) | (simp [SZl, nS]; omega)) | ((with_reducible refine gWl ?_); first | (refine Wl_isMv rfl ?_; refine Xmv eok rfl rfl rfl rfl ?_) | refine Xq eok rfl rfl rfl rfl ?_ ?_ | refine Xn [0, 1, 4, 5, 9, 17] rfl ?_) | refine W_seq ?_ | refine W_region ?_ | refine W_skip ?_ | refine W_ret ?_ | refine W_block ?_ | refine W_exit ?_ | refine W_cond_t rfl ?_ | refine W_cond_f rfl ?_ | (refine W_cond rfl (fun hc => ?_) (fun hc => ?_) <;> (try simp only [HCl] at hc) <;> (try (exfalso; omega))))
    refine ⟨_, _, rfl, rfl, ?_⟩; simp [Frz_tup, Frz_ag, Frzs_cons, Frzs_nil, Frz_d, Frz_e0, Frz_sl, sln, isSl, slOk, hT]
/-- Where the document's own answer of members stands. -/
def cM (a x : Int) : Bool := isPl x && decide (x > a)
theorem cM_0 {a x : Int} (h : cM a x = true) : 0 ≤ x := by
  simp only [cM, Bool.and_eq_true] at h; exact (isPl_t h.1).1
theorem mem_pick (l : List Int) {k : Nat} (hk : k ≤ (memT l).length) :
    (∀ x, (memT l)[k]? = some x → l.foldl (selG (cM (ahead (-1) (memT l) k)) (fun a => a)) (-1) = x) ∧ ((memT l)[k]? = none → l.foldl (selG (cM (ahead (-1) (memT l) k)) (fun a => a)) (-1) = -1) := by
  obtain ⟨h1, h2⟩ := memT_spec l
  have hmono : ∀ (i j : Nat) (hi : i < (memT l).length) (hj : j < (memT l).length), i < j → (memT l)[i] < (memT l)[j] := fun i j hi hj h => List.pairwise_iff_getElem.1 h1 i j hi hj h
  have hcK : ∀ j (hj : j < (memT l).length), cM (ahead (-1) (memT l) k) (memT l)[j] = true ↔ k ≤ j := by
    intro j hj
    have hp := ((h2 _).1 (List.getElem_mem hj)).2
    have hp' := isPl_t hp
    simp only [cM, hp, Bool.true_and, decide_eq_true_eq]
    cases k with
    | zero => simp only [ahead]; exact ⟨fun _ => Nat.zero_le _, fun _ => by omega⟩
    | succ i =>
      have hi : i < (memT l).length := by omega
      have e : ahead (-1) (memT l) (i + 1) = (memT l)[i] := by simp [ahead, hi]
      rw [e]
      constructor
      · intro h
        rcases Nat.lt_trichotomy i j with h3 | h3 | h3
        · omega
        · subst h3; omega
        · have := hmono j i hj hi h3; omega
      · exact fun h => hmono i j hi hj (by omega)
  refine pick_at (fun a h => cM_0 h) h1 (fun x hx => ((h2 x).1 hx).1) hk (fun a ha hc => ?_) (fun j hj h => (hcK j hj).2 h)
  have hp : isPl a = true := by simp only [cM, Bool.and_eq_true] at hc; exact hc.1
  obtain ⟨j, hj, e⟩ := List.mem_iff_getElem.1 ((h2 a).2 ⟨ha, hp⟩)
  exact ⟨j, hj, e, (hcK j hj).1 (e ▸ hc)⟩
theorem pl_nodup_len {l : List Int} (h : l.Nodup) (hp : ∀ x ∈ l, isPl x = true) : l.length ≤ 65536 := by
  have h1 := h.length_le_of_subset (l₂ := (List.range 65536).map Int.ofNat) fun x hx => by
    have := isPl_t (hp x hx)
    exact List.mem_map.2 ⟨x.toNat, List.mem_range.2 (by omega), by show ((x.toNat : Nat) : Int) = x; omega⟩
  rwa [List.length_map, List.length_range] at h1
set_option maxHeartbeats 8000000 in
theorem rMembers_any (l : List Int) (hl : l.length ≤ 9223372036854775807) : Go.Gar.Fn Tryd.prog 14 [.is l] (.is (memT l)) := by
  refine Fn_of_W eok Tryd.func14 rfl rfl (Nat.le_of_ble_eq_true rfl) ?_
  have hKl := mem_len l
  have hK6 := pl_nodup_len (pw_nodup (memT_spec l).1) (fun x hx => ((memT_spec l).2 x |>.1 hx).2)
  have pk := fun {k : Nat} (hk : k ≤ (memT l).length) => mem_pick l hk
  obtain ⟨-, hm⟩ := memT_spec l
  generalize memT l = K at *
  have nS := True.intro
  repeat' (first | ((with_reducible refine sg ?_); first | with_reducible rfl | ((with_reducible refine fitG ?_); first | kernel_rfl | rfl | (simp [fitT, fitF, nS]; done)) | with_reducible refine andT ?_ ?_ | with_reducible exact Nat.beq_refl _ | with_reducible exact fitsI_u8 _ | ((with_reducible refine decide_eq_true ?_); first | omega | (simp only [SZl, nS]; omega)) | decide | (simp [SZl, slc, allOneD, D.one, allOne, AV.one, nS]; done) | (simp [SZl, nS]; omega)) | ((with_reducible refine gWl ?_); first | (refine Wl_isMv rfl ?_; refine Xmv eok rfl rfl rfl rfl ?_) | refine Xq eok rfl rfl rfl rfl ?_ ?_ | refine Xn [0, 2, 3, 4, 5, 6, 8, 9, 10, 14, 41, 47] rfl ?_ | refine Xw eok rfl rfl rfl rfl ?_ ?_ | refine Xs rfl rfl rfl ?_ | (refine Xsplit rfl rfl (fun hc => ?_) (fun hc => ?_) <;> (fail_if_success (with_reducible first | exact tF hc | exact fT hc)) <;> (try simp only [HCl] at hc) <;> (try (exfalso; omega)))) | refine W_seq ?_ | refine W_region ?_ | refine W_skip ?_ | refine W_ret ?_ | refine W_block ?_ | refine W_exit ?_ | refine W_cond_t rfl ?_ | refine W_cond_f rfl ?_ | (refine W_cond rfl (fun hc => ?_) (fun hc => ?_) <;> (try simp only [HCl] at hc) <;> (try (exfalso; omega))))
  refine W_ghost (TSub.e0own 3 (.is []) rfl rfl rfl trivial) (by simp) ?_
  refine W_loopI (fun k => k ≤ K.length) (fun k : Nat => ⟨[(0, .d (.is l)), (3, .sl 0 (K.take k).length 1), (4, .d (.i .i64 (ahead (-1) K k))), (8, .d (.i .i64 l.length)), (9, .d (.i .i64 k))], [.a (.is (K.take k))], 56⟩) (fun k => l.length - k) 0 (Nat.zero_le _) ?_ (Nat.le_of_ble_eq_true rfl) ?_
  · exact TSub.cut rfl (by repeat' (first | exact True.intro | refine And.intro (by (first | rfl | ((with_reducible_and_instances refine congrArg (fun z => some (AV.d (D.i _ z))) ?_); omega) | (refine congrArg (fun z => some (AV.d (D.i _ z))) (?_ : (_ : Int) = _); omega) | (refine congrArg some ?_; simp only [ahead, List.take_zero, List.length_nil]; done) | (refine congrArg some ?_; simp [ahead, List.take_zero, List.length_nil]; done))) ?_)) (by repeat' (first | exact True.intro | refine And.intro (Or.inr rfl) ?_ | refine And.intro (Or.inl ⟨rfl, rfl⟩) ?_ | refine And.intro (Or.inr (by simp only [ahead, List.take_zero, List.length_nil])) ?_ | refine And.intro (Or.inr (by simp [ahead, List.take_zero, List.length_nil])) ?_)) (by first | rfl | (simp (decide := true) [heapOk, Blk.ok, AV.oks, AV.ok, hk]; done)) rfl
  intro k hk
  obtain ⟨x1, x2⟩ := pk hk
  generalize hA : ahead (-1) K k = a at *
  by_cases hkl : k < l.length
  · have nS := True.intro
    repeat' (first | ((with_reducible refine sg ?_); first | with_reducible rfl | ((with_reducible refine fitG ?_); first | kernel_rfl | rfl | (simp [fitT, fitF, nS]; done)) | with_reducible refine andT ?_ ?_ | with_reducible exact Nat.beq_refl _ | with_reducible exact fitsI_u8 _ | ((with_reducible refine decide_eq_true ?_); first | omega | (simp only [SZl, nS]; omega)) | decide | (simp [SZl, slc, allOneD, D.one, allOne, AV.one, nS]; done) | (simp [SZl, nS]; omega)) | ((with_reducible refine gWl ?_); first | (refine Wl_isMv rfl ?_; refine Xmv eok rfl rfl rfl rfl ?_) | refine Xq eok rfl rfl rfl rfl ?_ ?_ | refine Xn [0, 2, 3, 4, 5, 6, 8, 9, 10, 14, 41, 47] rfl ?_ | refine Xw eok rfl rfl rfl rfl ?_ ?_ | refine Xs rfl rfl rfl ?_ | (refine Xsplit rfl rfl (fun hc => ?_) (fun hc => ?_) <;> (fail_if_success (with_reducible first | exact tF hc | exact fT hc)) <;> (try simp only [HCl] at hc) <;> (try (exfalso; omega)))) | refine W_seq ?_ | refine W_region ?_ | refine W_skip ?_ | refine W_ret ?_ | refine W_block ?_ | refine W_exit ?_ | refine W_cond_t rfl ?_ | refine W_cond_f rfl ?_ | (refine W_cond rfl (fun hc => ?_) (fun hc => ?_) <;> (try simp only [HCl] at hc) <;> (try (exfalso; omega))))
    refine W_loopI (fun j => j ≤ l.length) (fun j : Nat => ⟨[(0, .d (.is l)), (3, .sl 0 (K.take k).length 1), (4, .d (.i .i64 a)), (5, .d (.i .i64 ((l.take j).foldl (selG (cM a) (fun a => a)) (-1)))), (6, .d (.i .i64 j)), (8, .d (.i .i64 l.length)), (9, .d (.i .i64 k))], [.a (.is (K.take k))], 56⟩) (fun j => l.length - j) 0 (Nat.zero_le _) ?_ (Nat.le_refl _) ?_
    · exact TSub.cut rfl (by repeat' (first | exact True.intro | refine And.intro (by (first | rfl | ((with_reducible_and_instances refine congrArg (fun z => some (AV.d (D.i _ z))) ?_); omega) | (refine congrArg (fun z => some (AV.d (D.i _ z))) (?_ : (_ : Int) = _); omega) | (refine congrArg some ?_; simp only [List.take_zero, List.foldl_nil]; done) | (refine congrArg some ?_; simp [List.take_zero, List.foldl_nil]; done))) ?_)) (by repeat' (first | exact True.intro | refine And.intro (Or.inr rfl) ?_ | refine And.intro (Or.inl ⟨rfl, rfl⟩) ?_ | refine And.intro (Or.inr (by simp only [List.take_zero, List.foldl_nil])) ?_ | refine And.intro (Or.inr (by simp [List.take_zero, List.foldl_nil])) ?_)) (by first | rfl | (simp (decide := true) [heapOk, Blk.ok, AV.oks, AV.ok, hk]; done)) rfl
    intro j hj
    by_cases hjl : j < l.length
    · obtain ⟨p, hp⟩ := get_of hjl
      have gp := getD_of hp
      have hs := foldl_take (selG (cM a) (fun a => a)) (-1) hp
      generalize (l.take j).foldl (selG (cM a) (fun a => a)) (-1) = n at *
      have c3 := place26_fn p
      cases h1 : isPl p with
      | true =>
        rw [h1] at c3
        by_cases h2 : p > a
        · have f2 : decide (p > a) = true := decide_eq_true h2
          have hc : cM a p = true := by unfold cM; rw [h1, f2]; rfl
          by_cases h3 : n < 0
          · have f3 : decide (n < 0) = true := decide_eq_true h3
            have hs' : (l.take (j + 1)).foldl (selG (cM a) (fun a => a)) (-1) = p := by rw [hs]; exact if_pos ⟨hc, .inl h3⟩
            have nS := And.intro gp (And.intro f2 f3)
            repeat' (first | ((with_reducible refine sg ?_); first | with_reducible rfl | ((with_reducible refine fitG ?_); first | kernel_rfl | rfl | (simp [fitT, fitF, nS]; done)) | with_reducible refine andT ?_ ?_ | with_reducible exact Nat.beq_refl _ | with_reducible exact fitsI_u8 _ | ((with_reducible refine decide_eq_true ?_); first | omega | (simp only [SZl, nS]; omega)) | decide | (simp [SZl, slc, allOneD, D.one, allOne, AV.one, nS]; done) | (simp [SZl, nS]; omega)) | ((with_reducible refine gWl ?_); first | (refine Wl_isMv rfl ?_; refine Xmv eok rfl rfl rfl rfl ?_) | refine Xq eok rfl rfl rfl rfl ?_ ?_ | refine Xn [0, 2, 3, 4, 5, 6, 8, 9, 10, 14, 41, 47] rfl ?_ | refine XF (c3) rfl rfl rfl rfl ?_ | refine Xw eok rfl rfl rfl rfl ?_ ?_ | refine Xs rfl rfl rfl ?_ | (refine Xsplit rfl rfl (fun hc => ?_) (fun hc => ?_) <;> (fail_if_success (with_reducible first | exact tF hc | exact fT hc)) <;> (try simp only [HCl] at hc) <;> (try (exfalso; omega)))) | refine W_seq ?_ | refine W_region ?_ | refine W_skip ?_ | refine W_ret ?_ | refine W_block ?_ | refine W_exit ?_ | refine W_cond_t rfl ?_ | refine W_cond_f rfl ?_ | (refine W_cond rfl (fun hc => ?_) (fun hc => ?_) <;> (try simp only [HCl] at hc) <;> (try (exfalso; omega))))
            refine ⟨j + 1, hjl, by omega, Nat.le_refl _, ?_⟩
            exact TSub.cut rfl (by repeat' (first | exact True.intro | refine And.intro (by (first | rfl | ((with_reducible_and_instances refine congrArg (fun z => some (AV.d (D.i _ z))) ?_); omega) | (refine congrArg (fun z => some (AV.d (D.i _ z))) (?_ : (_ : Int) = _); omega) | (refine congrArg some ?_; simp only [hs']; done) | (refine congrArg some ?_; simp [hs']; done))) ?_)) (by repeat' (first | exact True.intro | refine And.intro (Or.inr rfl) ?_ | refine And.intro (Or.inl ⟨rfl, rfl⟩) ?_ | refine And.intro (Or.inr (by simp only [hs'])) ?_ | refine And.intro (Or.inr (by simp [hs'])) ?_)) (by first | rfl | (simp (decide := true) [heapOk, Blk.ok, AV.oks, AV.ok, hk]; done)) rfl
          · have f3 : decide (n < 0) = false := decide_eq_false h3
            by_cases h4 : p < n
            · have f4 : decide (p < n) = true := decide_eq_true h4
              have hs' : (l.take (j + 1)).foldl (selG (cM a) (fun a => a)) (-1) = p := by rw [hs]; exact if_pos ⟨hc, .inr h4⟩
              have nS := And.intro gp (And.intro f2 (And.intro f3 f4))
              repeat' (first | ((with_reducible refine sg ?_); first | with_reducible rfl | ((with_reducible refine fitG ?_); first | kernel_rfl | rfl | (simp [fitT, fitF, nS]; done)) | with_reducible refine andT ?_ ?_ | with_reducible exact Nat.beq_refl _ | with_reducible exact fitsI_u8 _ | ((with_reducible refine decide_eq_true ?_); first | omega | (simp only [SZl, nS]; omega)) | decide | (simp [SZl, slc, allOneD, D.one, allOne, AV.one, nS]; done) | (simp [SZl, nS]; omega)) | ((with_reducible refine gWl ?_); first | (refine Wl_isMv rfl ?_; refine Xmv eok rfl rfl rfl rfl ?_) | refine Xq eok rfl rfl rfl rfl ?_ ?_ | refine Xn [0, 2, 3, 4, 5, 6, 8, 9, 10, 14, 41, 47] rfl ?_ | refine XF (c3) rfl rfl rfl rfl ?_ | refine Xw eok rfl rfl rfl rfl ?_ ?_ | refine Xs rfl rfl rfl ?_ | (refine Xsplit rfl rfl (fun hc => ?_) (fun hc => ?_) <;> (fail_if_success (with_reducible first | exact tF hc | exact fT hc)) <;> (try simp only [HCl] at hc) <;> (try (exfalso; omega)))) | refine W_seq ?_ | refine W_region ?_ | refine W_skip ?_ | refine W_ret ?_ | refine W_block ?_ | refine W_exit ?_ | refine W_cond_t rfl ?_ | refine W_cond_f rfl ?_ | (refine W_cond rfl (fun hc => ?_) (fun hc => ?_) <;> (try simp only [HCl] at hc) <;> (try (exfalso; omega))))
              refine ⟨j + 1, hjl, by omega, Nat.le_refl _, ?_⟩
              exact TSub.cut rfl (by repeat' (first | exact True.intro | refine And.intro (by (first | rfl | ((with_reducible_and_instances refine congrArg (fun z => some (AV.d (D.i _ z))) ?_); omega) | (refine congrArg (fun z => some (AV.d (D.i _ z))) (?_ : (_ : Int) = _); omega) | (refine congrArg some ?_; simp only [hs']; done) | (refine congrArg some ?_; simp [hs']; done))) ?_)) (by repeat' (first | exact True.intro | refine And.intro (Or.inr rfl) ?_ | refine And.intro (Or.inl ⟨rfl, rfl⟩) ?_ | refine And.intro (Or.inr (by simp only [hs'])) ?_ | refine And.intro (Or.inr (by simp [hs'])) ?_)) (by first | rfl | (simp (decide := true) [heapOk, Blk.ok, AV.oks, AV.ok, hk]; done)) rfl
            · have f4 : decide (p < n) = false := decide_eq_false h4
              have hs' : (l.take (j + 1)).foldl (selG (cM a) (fun a => a)) (-1) = n := by rw [hs]; exact if_neg fun h => h.2.elim h3 h4
              have nS := And.intro gp (And.intro f2 (And.intro f3 f4))
              repeat' (first | ((with_reducible refine sg ?_); first | with_reducible rfl | ((with_reducible refine fitG ?_); first | kernel_rfl | rfl | (simp [fitT, fitF, nS]; done)) | with_reducible refine andT ?_ ?_ | with_reducible exact Nat.beq_refl _ | with_reducible exact fitsI_u8 _ | ((with_reducible refine decide_eq_true ?_); first | omega | (simp only [SZl, nS]; omega)) | decide | (simp [SZl, slc, allOneD, D.one, allOne, AV.one, nS]; done) | (simp [SZl, nS]; omega)) | ((with_reducible refine gWl ?_); first | (refine Wl_isMv rfl ?_; refine Xmv eok rfl rfl rfl rfl ?_) | refine Xq eok rfl rfl rfl rfl ?_ ?_ | refine Xn [0, 2, 3, 4, 5, 6, 8, 9, 10, 14, 41, 47] rfl ?_ | refine XF (c3) rfl rfl rfl rfl ?_ | refine Xw eok rfl rfl rfl rfl ?_ ?_ | refine Xs rfl rfl rfl ?_ | (refine Xsplit rfl rfl (fun hc => ?_) (fun hc => ?_) <;> (fail_if_success (with_reducible first | exact tF hc | exact fT hc)) <;> (try simp only [HCl] at hc) <;> (try (exfalso; omega)))) | refine W_seq ?_ | refine W_region ?_ | refine W_skip ?_ | refine W_ret ?_ | refine W_block ?_ | refine W_exit ?_ | refine W_cond_t rfl ?_ | refine W_cond_f rfl ?_ | (refine W_cond rfl (fun hc => ?_) (fun hc => ?_) <;> (try simp only [HCl] at hc) <;> (try (exfalso; omega))))
              refine ⟨j + 1, hjl, by omega, Nat.le_refl _, ?_⟩
              exact TSub.cut rfl (by repeat' (first | exact True.intro | refine And.intro (by (first | rfl | ((with_reducible_and_instances refine congrArg (fun z => some (AV.d (D.i _ z))) ?_); omega) | (refine congrArg (fun z => some (AV.d (D.i _ z))) (?_ : (_ : Int) = _); omega) | (refine congrArg some ?_; simp only [hs']; done) | (refine congrArg some ?_; simp [hs']; done))) ?_)) (by repeat' (first | exact True.intro | refine And.intro (Or.inr rfl) ?_ | refine And.intro (Or.inl ⟨rfl, rfl⟩) ?_ | refine And.intro (Or.inr (by simp only [hs'])) ?_ | refine And.intro (Or.inr (by simp [hs'])) ?_)) (by first | rfl | (simp (decide := true) [heapOk, Blk.ok, AV.oks, AV.ok, hk]; done)) rfl
        · have f2 : decide (p > a) = false := decide_eq_false h2
          have hc : cM a p = false := by unfold cM; rw [h1, f2]; rfl
          have hs' : (l.take (j + 1)).foldl (selG (cM a) (fun a => a)) (-1) = n := by rw [hs]; exact if_neg fun h => by rw [hc] at h; cases h.1
          have nS := And.intro gp f2
          repeat' (first | ((with_reducible refine sg ?_); first | with_reducible rfl | ((with_reducible refine fitG ?_); first | kernel_rfl | rfl | (simp [fitT, fitF, nS]; done)) | with_reducible refine andT ?_ ?_ | with_reducible exact Nat.beq_refl _ | with_reducible exact fitsI_u8 _ | ((with_reducible refine decide_eq_true ?_); first | omega | (simp only [SZl, nS]; omega)) | decide | (simp [SZl, slc, allOneD, D.one, allOne, AV.one, nS]; done) | (simp [SZl, nS]; omega)) | ((with_reducible refine gWl ?_); first | (refine Wl_isMv rfl ?_; refine Xmv eok rfl rfl rfl rfl ?_) | refine Xq eok rfl rfl rfl rfl ?_ ?_ | refine Xn [0, 2, 3, 4, 5, 6, 8, 9, 10, 14, 41, 47] rfl ?_ | refine XF (c3) rfl rfl rfl rfl ?_ | refine Xw eok rfl rfl rfl rfl ?_ ?_ | refine Xs rfl rfl rfl ?_ | (refine Xsplit rfl rfl (fun hc => ?_) (fun hc => ?_) <;> (fail_if_success (with_reducible first | exact tF hc | exact fT hc)) <;> (try simp only [HCl] at hc) <;> (try (exfalso; omega)))) | refine W_seq ?_ | refine W_region ?_ | refine W_skip ?_ | refine W_ret ?_ | refine W_block ?_ | refine W_exit ?_ | refine W_cond_t rfl ?_ | refine W_cond_f rfl ?_ | (refine W_cond rfl (fun hc => ?_) (fun hc => ?_) <;> (try simp only [HCl] at hc) <;> (try (exfalso; omega))))
          refine ⟨j + 1, hjl, by omega, Nat.le_refl _, ?_⟩
          exact TSub.cut rfl (by repeat' (first | exact True.intro | refine And.intro (by (first | rfl | ((with_reducible_and_instances refine congrArg (fun z => some (AV.d (D.i _ z))) ?_); omega) | (refine congrArg (fun z => some (AV.d (D.i _ z))) (?_ : (_ : Int) = _); omega) | (refine congrArg some ?_; simp only [hs']; done) | (refine congrArg some ?_; simp [hs']; done))) ?_)) (by repeat' (first | exact True.intro | refine And.intro (Or.inr rfl) ?_ | refine And.intro (Or.inl ⟨rfl, rfl⟩) ?_ | refine And.intro (Or.inr (by simp only [hs'])) ?_ | refine And.intro (Or.inr (by simp [hs'])) ?_)) (by first | rfl | (simp (decide := true) [heapOk, Blk.ok, AV.oks, AV.ok, hk]; done)) rfl
      | false =>
        rw [h1] at c3
        have hc : cM a p = false := by unfold cM; rw [h1]; rfl
        have hs' : (l.take (j + 1)).foldl (selG (cM a) (fun a => a)) (-1) = n := by rw [hs]; exact if_neg fun h => by rw [hc] at h; cases h.1
        have nS := gp
        repeat' (first | ((with_reducible refine sg ?_); first | with_reducible rfl | ((with_reducible refine fitG ?_); first | kernel_rfl | rfl | (simp [fitT, fitF, nS]; done)) | with_reducible refine andT ?_ ?_ | with_reducible exact Nat.beq_refl _ | with_reducible exact fitsI_u8 _ | ((with_reducible refine decide_eq_true ?_); first | omega | (simp only [SZl, nS]; omega)) | decide | (simp [SZl, slc, allOneD, D.one, allOne, AV.one, nS]; done) | (simp [SZl, nS]; omega)) | ((with_reducible refine gWl ?_); first | (refine Wl_isMv rfl ?_; refine Xmv eok rfl rfl rfl rfl ?_) | refine Xq eok rfl rfl rfl rfl ?_ ?_ | refine Xn [0, 2, 3, 4, 5, 6, 8, 9, 10, 14, 41, 47] rfl ?_ | refine XF (c3) rfl rfl rfl rfl ?_ | refine Xw eok rfl rfl rfl rfl ?_ ?_ | refine Xs rfl rfl rfl ?_ | (refine Xsplit rfl rfl (fun hc => ?_) (fun hc => ?_) <;> (fail_if_success (with_reducible first | exact tF hc | exact fT hc)) <;> (try simp only [HCl] at hc) <;> (try (exfalso; omega)))) | refine W_seq ?_ | refine W_region ?_ | refine W_skip ?_ | refine W_ret ?_ | refine W_block ?_ | refine W_exit ?_ | refine W_cond_t rfl ?_ | refine W_cond_f rfl ?_ | (refine W_cond rfl (fun hc => ?_) (fun hc => ?_) <;> (try simp only [HCl] at hc) <;> (try (exfalso; omega))))
        refine ⟨j + 1, hjl, by omega, Nat.le_refl _, ?_⟩
        exact TSub.cut rfl (by repeat' (first | exact True.intro | refine And.intro (by (first | rfl | ((with_reducible_and_instances refine congrArg (fun z => some (AV.d (D.i _ z))) ?_); omega) | (refine congrArg (fun z => some (AV.d (D.i _ z))) (?_ : (_ : Int) = _); omega) | (refine congrArg some ?_; simp only [hs']; done) | (refine congrArg some ?_; simp [hs']; done))) ?_)) (by repeat' (first | exact True.intro | refine And.intro (Or.inr rfl) ?_ | refine And.intro (Or.inl ⟨rfl, rfl⟩) ?_ | refine And.intro (Or.inr (by simp only [hs'])) ?_ | refine And.intro (Or.inr (by simp [hs'])) ?_)) (by first | rfl | (simp (decide := true) [heapOk, Blk.ok, AV.oks, AV.ok, hk]; done)) rfl
    · have e : j = l.length := by omega
      subst e
      rw [List.take_length]
      cases hKk : K[k]? with
      | none =>
        rw [x2 hKk]
        have hk2 : K.take k = K := List.take_of_length_le (List.getElem?_eq_none_iff.1 hKk)
        rw [hk2]
        have nS := True.intro
        repeat' (first | ((with_reducible refine sg ?_); first | with_reducible rfl | ((with_reducible refine fitG ?_); first | kernel_rfl | rfl | (simp [fitT, fitF, nS]; done)) | with_reducible refine andT ?_ ?_ | with_reducible exact Nat.beq_refl _ | with_reducible exact fitsI_u8 _ | ((with_reducible refine decide_eq_true ?_); first | omega | (simp only [SZl, nS]; omega)) | decide | (simp [SZl, slc, allOneD, D.one, allOne, AV.one, nS]; done) | (simp [SZl, nS]; omega)) | ((with_reducible refine gWl ?_); first | (refine Wl_isMv rfl ?_; refine Xmv eok rfl rfl rfl rfl ?_) | refine Xq eok rfl rfl rfl rfl ?_ ?_ | refine Xn [0, 2, 3, 4, 5, 6, 8, 9, 10, 14, 41, 47] rfl ?_ | refine Xw eok rfl rfl rfl rfl ?_ ?_ | refine Xs rfl rfl rfl ?_ | (refine Xsplit rfl rfl (fun hc => ?_) (fun hc => ?_) <;> (fail_if_success (with_reducible first | exact tF hc | exact fT hc)) <;> (try simp only [HCl] at hc) <;> (try (exfalso; omega)))) | refine W_seq ?_ | refine W_region ?_ | refine W_skip ?_ | refine W_ret ?_ | refine W_block ?_ | refine W_exit ?_ | refine W_cond_t rfl ?_ | refine W_cond_f rfl ?_ | (refine W_cond rfl (fun hc => ?_) (fun hc => ?_) <;> (try simp only [HCl] at hc) <;> (try (exfalso; omega))))
        refine ⟨_, _, rfl, rfl, ?_⟩; simp [Frz_tup, Frz_ag, Frzs_cons, Frzs_nil, Frz_d, Frz_e0, Frz_sl, sln, isSl, slOk]
      | some y =>
        rw [x1 y hKk]
        have hy0 : ¬ (y < 0) := by
          have := isPl_t ((hm y).1 (List.mem_of_getElem? hKk)).2
          omega
        have f1 : decide (y < 0) = false := decide_eq_false hy0
        have hk2 := (List.getElem?_eq_some_iff.1 hKk).1
        have ht := take_succ_of hKk
        have hA' : ahead (-1) K (k + 1) = y := getD_of hKk
        have hlt : (K.take k).length ≤ 65536 := Nat.le_trans (List.length_take_le' _ _) hK6
        have nS := f1
        repeat' (first | ((with_reducible refine sg ?_); first | with_reducible rfl | ((with_reducible refine fitG ?_); first | kernel_rfl | rfl | (simp [fitT, fitF, nS]; done)) | with_reducible refine andT ?_ ?_ | with_reducible exact Nat.beq_refl _ | with_reducible exact fitsI_u8 _ | ((with_reducible refine decide_eq_true ?_); first | omega | (simp only [SZl, nS]; omega)) | decide | (simp [SZl, slc, allOneD, D.one, allOne, AV.one, nS]; done) | (simp [SZl, nS]; omega)) | ((with_reducible refine gWl ?_); first | (refine Wl_isMv rfl ?_; refine Xmv eok rfl rfl rfl rfl ?_) | refine Xq eok rfl rfl rfl rfl ?_ ?_ | refine Xn [0, 2, 3, 4, 5, 6, 8, 9, 10, 14, 41, 47] rfl ?_ | refine Xw eok rfl rfl rfl rfl ?_ ?_ | refine Xs rfl rfl rfl ?_ | (refine Xsplit rfl rfl (fun hc => ?_) (fun hc => ?_) <;> (fail_if_success (with_reducible first | exact tF hc | exact fT hc)) <;> (try simp only [HCl] at hc) <;> (try (exfalso; omega)))) | refine W_seq ?_ | refine W_region ?_ | refine W_skip ?_ | refine W_ret ?_ | refine W_block ?_ | refine W_exit ?_ | refine W_cond_t rfl ?_ | refine W_cond_f rfl ?_ | (refine W_cond rfl (fun hc => ?_) (fun hc => ?_) <;> (try simp only [HCl] at hc) <;> (try (exfalso; omega))))
        refine ⟨k + 1, hk2, by omega, Nat.le_refl _, ?_⟩
        exact TSub.cut rfl (by repeat' (first | exact True.intro | refine And.intro (by (first | rfl | ((with_reducible_and_instances refine congrArg (fun z => some (AV.d (D.i _ z))) ?_); omega) | (refine congrArg (fun z => some (AV.d (D.i _ z))) (?_ : (_ : Int) = _); omega) | (refine congrArg some ?_; simp only [hA', ht, List.length_append, List.length_singleton]; done) | (refine congrArg some ?_; simp [hA', ht, List.length_append, List.length_singleton]; done))) ?_)) (by repeat' (first | exact True.intro | refine And.intro (Or.inr rfl) ?_ | refine And.intro (Or.inl ⟨rfl, rfl⟩) ?_ | refine And.intro (Or.inr (by simp only [hA', ht, List.length_append, List.length_singleton])) ?_ | refine And.intro (Or.inr (by simp [hA', ht, List.length_append, List.length_singleton])) ?_)) (by first | rfl | (simp (decide := true) [heapOk, Blk.ok, AV.oks, AV.ok, hk]; done)) rfl
  · have hk2 : K.take k = K := List.take_of_length_le (by omega)
    rw [hk2]
    have nS := True.intro
    repeat' (first | ((with_reducible refine sg ?_); first | with_reducible rfl | ((with_reducible refine fitG ?_); first | kernel_rfl | rfl | (simp [fitT, fitF, nS]; done)) | with_reducible refine andT ?_ ?_ | with_reducible exact Nat.beq_refl _ | with_reducible exact fitsI_u8 _ | ((with_reducible refine decide_eq_true ?_); first | omega | (simp only [SZl, nS]; omega)) | decide | (simp [SZl, slc, allOneD, D.one, allOne, AV.one, nS]; done) | (simp [SZl, nS]; omega)) | ((with_reducible refine gWl ?_); first | (refine Wl_isMv rfl ?_; refine Xmv eok rfl rfl rfl rfl ?_) | refine Xq eok rfl rfl rfl rfl ?_ ?_ | refine Xn [0, 2, 3, 4, 5, 6, 8, 9, 10, 14, 41, 47] rfl ?_ | refine Xw eok rfl rfl rfl rfl ?_ ?_ | refine Xs rfl rfl rfl ?_ | (refine Xsplit rfl rfl (fun hc => ?_) (fun hc => ?_) <;> (fail_if_success (with_reducible first | exact tF hc | exact fT hc)) <;> (try simp only [HCl] at hc) <;> (try (exfalso; omega)))) | refine W_seq ?_ | refine W_region ?_ | refine W_skip ?_ | refine W_ret ?_ | refine W_block ?_ | refine W_exit ?_ | refine W_cond_t rfl ?_ | refine W_cond_f rfl ?_ | (refine W_cond rfl (fun hc => ?_) (fun hc => ?_) <;> (try simp only [HCl] at hc) <;> (try (exfalso; omega))))
    refine ⟨_, _, rfl, rfl, ?_⟩; simp [Frz_tup, Frz_ag, Frzs_cons, Frzs_nil, Frz_d, Frz_e0, Frz_sl, sln, isSl, slOk]
theorem rMembers_fn (l : List Int) (hl : l.length ≤ 1000) : Go.Gar.Fn Tryd.prog 14 [.is l] (.is (memT l)) := rMembers_any l (by omega)
/-- Where the document's own answer of the others stands. -/
def cO (x a y : Int) : Bool := isPl y && decide (farT x y > farT x a)
theorem cO_0 {x a y : Int} (h : cO x a y = true) : 0 ≤ y := by
  simp only [cO, Bool.and_eq_true] at h; exact (isPl_t h.1).1
theorem rot_pick {l : List Int} {x : Int} (hR : rightM l = true) (hx : x ∈ l) {k : Nat} (hk : k ≤ (rotT x l).length) :
    (∀ y, (rotT x l)[k]? = some y → l.foldl (selG (cO x (ahead x (rotT x l) k)) (farT x)) (-1) = y) ∧ ((rotT x l)[k]? = none → l.foldl (selG (cO x (ahead x (rotT x l) k)) (farT x)) (-1) = -1) := by
  obtain ⟨r1, r2, r3, r4⟩ := rightM_t hR
  have hxp := r4 x hx
  have hxp' := isPl_t hxp
  have h1 := rot_up hxp r4 r3
  have hself : farT x x = 0 := by unfold farT; omega
  have hmono : ∀ (i j : Nat) (hi : i < (rotT x l).length) (hj : j < (rotT x l).length), i < j → farT x (rotT x l)[i] < farT x (rotT x l)[j] := fun i j hi hj h => List.pairwise_iff_getElem.1 h1 i j hi hj h
  have hcK : ∀ j (hj : j < (rotT x l).length), cO x (ahead x (rotT x l) k) (rotT x l)[j] = true ↔ k ≤ j := by
    intro j hj
    obtain ⟨hm, hne⟩ := rot_mem.1 (List.getElem_mem hj)
    have hp := r4 _ hm
    have hp' := isPl_t hp
    simp only [cO, hp, Bool.true_and, decide_eq_true_eq]
    cases k with
    | zero => simp only [ahead, hself]; exact ⟨fun _ => Nat.zero_le _, fun _ => by unfold farT; omega⟩
    | succ i =>
      have hi : i < (rotT x l).length := by omega
      have e : ahead x (rotT x l) (i + 1) = (rotT x l)[i] := by simp [ahead, hi]
      rw [e]
      constructor
      · intro h
        rcases Nat.lt_trichotomy i j with h3 | h3 | h3
        · omega
        · subst h3; omega
        · have := hmono j i hj hi h3; omega
      · exact fun h => hmono i j hi hj (by omega)
  refine pick_at (fun a h => cO_0 h) h1 (fun y hy => (rot_mem.1 hy).1) hk (fun a ha hc => ?_) (fun j hj h => (hcK j hj).2 h)
  have hne : a ≠ x := by
    rintro rfl
    simp only [cO, Bool.and_eq_true, decide_eq_true_eq, hself] at hc
    have := (farT_lt a (ahead a (rotT a l) k)).1
    omega
  obtain ⟨j, hj, e⟩ := List.mem_iff_getElem.1 (rot_mem.2 ⟨ha, hne⟩)
  exact ⟨j, hj, e, (hcK j hj).1 (e ▸ hc)⟩
theorem i64_pl {x : Int} (h : isPl x = true) : i64 x := by have := isPl_t h; unfold i64; omega
set_option maxHeartbeats 8000000 in
theorem rAll_fn (l : List Int) (x : Int) (hR : rightM l = true) (hx : x ∈ l) : Go.Gar.Fn Tryd.prog 47 [.is l, .i .i64 x] (.is (rotT x l)) := by
  refine Fn_of_W eok Tryd.func47 rfl rfl (Nat.le_of_ble_eq_true rfl) ?_
  have pk := fun {k : Nat} (hk : k ≤ (rotT x l).length) => rot_pick hR hx hk
  obtain ⟨r1, r2, r3, r4⟩ := rightM_t hR
  have hKl := rot_len r3 hx
  have hm := fun y => @rot_mem x y l
  have hxi := i64_pl (r4 x hx)
  have hat : ∀ k, i64 (ahead x (rotT x l) k) := fun k => by
    cases k with
    | zero => exact hxi
    | succ j =>
      show i64 ((rotT x l).getD j 0)
      by_cases hj : j < (rotT x l).length
      · rw [List.getD_eq_getElem?_getD, List.getElem?_eq_getElem hj]
        exact i64_pl (r4 _ (rot_mem.1 (List.getElem_mem hj)).1)
      · rw [List.getD_eq_getElem?_getD, List.getElem?_eq_none (by omega)]
        exact ⟨by decide, by decide⟩
  generalize rotT x l = K at *
  have nS := True.intro
  repeat' (first | ((with_reducible refine sg ?_); first | with_reducible rfl | ((with_reducible refine fitG ?_); first | kernel_rfl | rfl | (simp [fitT, fitF, nS]; done)) | with_reducible refine andT ?_ ?_ | with_reducible exact Nat.beq_refl _ | with_reducible exact fitsI_u8 _ | ((with_reducible refine decide_eq_true ?_); first | omega | (simp only [SZl, nS]; omega)) | decide | (simp [SZl, slc, allOneD, D.one, allOne, AV.one, nS]; done) | (simp [SZl, nS]; omega)) | ((with_reducible refine gWl ?_); first | (refine Wl_isMv rfl ?_; refine Xmv eok rfl rfl rfl rfl ?_) | refine Xq eok rfl rfl rfl rfl ?_ ?_ | refine Xn [0, 1, 4, 5, 6, 7, 8, 9, 11, 12, 13, 17, 27, 51, 57] rfl ?_ | refine Xw eok rfl rfl rfl rfl ?_ ?_ | refine Xs rfl rfl rfl ?_ | (refine Xsplit rfl rfl (fun hc => ?_) (fun hc => ?_) <;> (fail_if_success (with_reducible first | exact tF hc | exact fT hc)) <;> (try simp only [HCl] at hc) <;> (try (exfalso; omega)))) | refine W_seq ?_ | refine W_region ?_ | refine W_skip ?_ | refine W_ret ?_ | refine W_block ?_ | refine W_exit ?_ | refine W_cond_t rfl ?_ | refine W_cond_f rfl ?_ | (refine W_cond rfl (fun hc => ?_) (fun hc => ?_) <;> (try simp only [HCl] at hc) <;> (try (exfalso; omega))))
  refine W_ghost (TSub.e0own 5 (.is []) rfl rfl rfl trivial) (by simp) ?_
  refine W_loopI (fun k => k ≤ l.length) (fun k : Nat => ⟨[(0, .d (.is l)), (1, .d (.i .i64 x)), (5, .sl 0 (K.take k).length 1), (11, .d (.i .i64 l.length)), (12, .d (.i .i64 k))], [.a (.is (K.take k))], 64⟩) (fun k => l.length - k) 0 (Nat.zero_le _) ?_ (Nat.le_of_ble_eq_true rfl) ?_
  · exact TSub.cut rfl (by repeat' (first | exact True.intro | refine And.intro (by (first | rfl | ((with_reducible_and_instances refine congrArg (fun z => some (AV.d (D.i _ z))) ?_); omega) | (refine congrArg (fun z => some (AV.d (D.i _ z))) (?_ : (_ : Int) = _); omega) | (refine congrArg some ?_; simp only [List.take_zero, List.length_nil]; done) | (refine congrArg some ?_; simp [List.take_zero, List.length_nil]; done))) ?_)) (by repeat' (first | exact True.intro | refine And.intro (Or.inr rfl) ?_ | refine And.intro (Or.inl ⟨rfl, rfl⟩) ?_ | refine And.intro (Or.inr (by simp only [List.take_zero, List.length_nil])) ?_ | refine And.intro (Or.inr (by simp [List.take_zero, List.length_nil])) ?_)) (by first | rfl | (simp (decide := true) [heapOk, Blk.ok, AV.oks, AV.ok, hk]; done)) rfl
  intro k hk
  by_cases hkl : k < l.length
  · have hkK : k ≤ K.length := by omega
    obtain ⟨x1, x2⟩ := pk hkK
    have hai := hat k
    have hlk : (K.take k).length = k := List.length_take_of_le hkK
    have ht0 : k ≠ 0 → (K.take k).getD (k - 1) 0 = ahead x K k := fun h => by
      cases k with
      | zero => exact absurd rfl h
      | succ j =>
        show (K.take (j + 1)).getD j 0 = K.getD j 0
        rw [List.getD_eq_getElem?_getD, List.getD_eq_getElem?_getD, List.getElem?_take_of_lt (by omega)]
    have hz0 : k = 0 → x = ahead x K k := fun h => by subst h; rfl
    generalize hA : ahead x K k = a at *
    by_cases k0 : k = 0
    case' pos =>
      have f0 : decide (((K.take k).length : Int) > 0) = false := decide_eq_false (by rw [hlk]; omega)
      have hv7 := hz0 k0
      have nS := f0
      repeat' (first | ((with_reducible refine sg ?_); first | with_reducible rfl | ((with_reducible refine fitG ?_); first | kernel_rfl | rfl | (simp [fitT, fitF, nS]; done)) | with_reducible refine andT ?_ ?_ | with_reducible exact Nat.beq_refl _ | with_reducible exact fitsI_u8 _ | ((with_reducible refine decide_eq_true ?_); first | omega | (simp only [SZl, nS]; omega)) | decide | (simp [SZl, slc, allOneD, D.one, allOne, AV.one, nS]; done) | (simp [SZl, nS]; omega)) | ((with_reducible refine gWl ?_); first | (refine Wl_isMv rfl ?_; refine Xmv eok rfl rfl rfl rfl ?_) | refine Xq eok rfl rfl rfl rfl ?_ ?_ | refine Xn [0, 1, 4, 5, 6, 7, 8, 9, 11, 12, 13, 17, 27, 51, 57] rfl ?_ | refine Xw eok rfl rfl rfl rfl ?_ ?_ | refine Xs rfl rfl rfl ?_ | (refine Xsplit rfl rfl (fun hc => ?_) (fun hc => ?_) <;> (fail_if_success (with_reducible first | exact tF hc | exact fT hc)) <;> (try simp only [HCl] at hc) <;> (try (exfalso; omega)))) | refine W_seq ?_ | refine W_region ?_ | refine W_skip ?_ | refine W_ret ?_ | refine W_block ?_ | refine W_exit ?_ | refine W_cond_t rfl ?_ | refine W_cond_f rfl ?_ | (refine W_cond rfl (fun hc => ?_) (fun hc => ?_) <;> (try simp only [HCl] at hc) <;> (try (exfalso; omega))))
    case' neg =>
      have f0 : decide (((K.take k).length : Int) > 0) = true := decide_eq_true (by rw [hlk]; omega)
      have f1 : ((K.take k).length : Int) - 1 = ((k - 1 : Nat) : Int) := by rw [hlk]; omega
      have gq := ht0 k0
      have gq1 : (K.take k)[k - 1]? = some a := by
        have hlt : k - 1 < (K.take k).length := by omega
        rw [List.getD_eq_getElem?_getD, List.getElem?_eq_getElem hlt] at gq
        rw [List.getElem?_eq_getElem hlt, ← gq]; rfl
      have gq2 : (slc (D.is (K.take k)))[k - 1]?.getD D.np = D.i .i64 a := by
        show ((K.take k).map (D.i .i64))[k - 1]?.getD D.np = _
        rw [List.getElem?_map, gq1]; rfl
      have hv7 := gq2
      have nS := And.intro f0 (And.intro f1 gq2)
      repeat' (first | ((with_reducible refine sg ?_); first | with_reducible rfl | ((with_reducible refine fitG ?_); first | kernel_rfl | rfl | (simp [fitT, fitF, nS]; done)) | with_reducible refine andT ?_ ?_ | with_reducible exact Nat.beq_refl _ | with_reducible exact fitsI_u8 _ | ((with_reducible refine decide_eq_true ?_); first | omega | (simp only [SZl, nS]; omega)) | decide | (simp [SZl, slc, allOneD, D.one, allOne, AV.one, nS]; done) | (simp [SZl, nS]; omega)) | ((with_reducible refine gWl ?_); first | (refine Wl_isMv rfl ?_; refine Xmv eok rfl rfl rfl rfl ?_) | refine Xq eok rfl rfl rfl rfl ?_ ?_ | refine Xn [0, 1, 4, 5, 6, 7, 8, 9, 11, 12, 13, 17, 27, 51, 57] rfl ?_ | refine Xw eok rfl rfl rfl rfl ?_ ?_ | refine Xs rfl rfl rfl ?_ | (refine Xsplit rfl rfl (fun hc => ?_) (fun hc => ?_) <;> (fail_if_success (with_reducible first | exact tF hc | exact fT hc)) <;> (try simp only [HCl] at hc) <;> (try (exfalso; omega)))) | refine W_seq ?_ | refine W_region ?_ | refine W_skip ?_ | refine W_ret ?_ | refine W_block ?_ | refine W_exit ?_ | refine W_cond_t rfl ?_ | refine W_cond_f rfl ?_ | (refine W_cond rfl (fun hc => ?_) (fun hc => ?_) <;> (try simp only [HCl] at hc) <;> (try (exfalso; omega))))
    all_goals
      refine W_loopI (fun j => j ≤ l.length) (fun j : Nat => ⟨[(0, .d (.is l)), (1, .d (.i .i64 x)), (5, .sl 0 (K.take k).length 1), (6, .d (.i .i64 ((l.take j).foldl (selG (cO x a) (farT x)) (-1)))), (7, .d (.i .i64 a)), (8, .d (.i .i64 j)), (11, .d (.i .i64 l.length)), (12, .d (.i .i64 k))], [.a (.is (K.take k))], 64⟩) (fun j => l.length - j) 0 (Nat.zero_le _) ?_ (Nat.le_refl _) ?_
      · exact TSub.cut rfl (by repeat' (first | exact True.intro | refine And.intro (by (first | rfl | ((with_reducible_and_instances refine congrArg (fun z => some (AV.d (D.i _ z))) ?_); omega) | (refine congrArg (fun z => some (AV.d (D.i _ z))) (?_ : (_ : Int) = _); omega) | (refine congrArg some ?_; simp only [List.take_zero, List.foldl_nil, hv7]; done) | (refine congrArg some ?_; simp [List.take_zero, List.foldl_nil, hv7]; done))) ?_)) (by repeat' (first | exact True.intro | refine And.intro (Or.inr rfl) ?_ | refine And.intro (Or.inl ⟨rfl, rfl⟩) ?_ | refine And.intro (Or.inr (by simp only [List.take_zero, List.foldl_nil, hv7])) ?_ | refine And.intro (Or.inr (by simp [List.take_zero, List.foldl_nil, hv7])) ?_)) (by first | rfl | (simp (decide := true) [heapOk, Blk.ok, AV.oks, AV.ok, hk]; done)) rfl
      intro j hj
      by_cases hjl : j < l.length
      · obtain ⟨p, hp⟩ := get_of hjl
        have gp := getD_of hp
        have hpp := r4 p (List.mem_of_getElem? hp)
        have hs := foldl_take (selG (cO x a) (farT x)) (-1) hp
        have hni : i64 ((l.take j).foldl (selG (cO x a) (farT x)) (-1)) := by
          rcases selG_spec (cO x a) (farT x) (fun a h => cO_0 h) (l.take j) (-1) (fun _ => rfl) (fun h => by omega) with ⟨h, -, -⟩ | ⟨-, h, -, -⟩
          · rw [h]; exact ⟨by decide, by decide⟩
          · rcases h with h | h
            · rw [h]; exact ⟨by decide, by decide⟩
            · exact i64_pl (r4 _ (List.mem_of_mem_take h))
        generalize (l.take j).foldl (selG (cO x a) (farT x)) (-1) = n at *
        have c3 := rFar_fn x p hxi (i64_pl hpp)
        have c4 := rFar_fn x a hxi hai
        have c5 := rFar_fn x n hxi hni
        by_cases h2 : farT x p > farT x a
        · have f2 : decide (farT x p > farT x a) = true := decide_eq_true h2
          have hc : cO x a p = true := by unfold cO; rw [hpp, f2]; rfl
          by_cases h3 : n < 0
          · have f3 : decide (n < 0) = true := decide_eq_true h3
            have hs' : (l.take (j + 1)).foldl (selG (cO x a) (farT x)) (-1) = p := by rw [hs]; exact if_pos ⟨hc, .inl h3⟩
            have nS := And.intro gp (And.intro f2 f3)
            repeat' (first | ((with_reducible refine sg ?_); first | with_reducible rfl | ((with_reducible refine fitG ?_); first | kernel_rfl | rfl | (simp [fitT, fitF, nS]; done)) | with_reducible refine andT ?_ ?_ | with_reducible exact Nat.beq_refl _ | with_reducible exact fitsI_u8 _ | ((with_reducible refine decide_eq_true ?_); first | omega | (simp only [SZl, nS]; omega)) | decide | (simp [SZl, slc, allOneD, D.one, allOne, AV.one, nS]; done) | (simp [SZl, nS]; omega)) | ((with_reducible refine gWl ?_); first | (refine Wl_isMv rfl ?_; refine Xmv eok rfl rfl rfl rfl ?_) | refine Xq eok rfl rfl rfl rfl ?_ ?_ | refine Xn [0, 1, 4, 5, 6, 7, 8, 9, 11, 12, 13, 17, 27, 51, 57] rfl ?_ | refine XF (c3) rfl rfl rfl rfl ?_ | refine XF (c4) rfl rfl rfl rfl ?_ | refine XF (c5) rfl rfl rfl rfl ?_ | refine Xw eok rfl rfl rfl rfl ?_ ?_ | refine Xs rfl rfl rfl ?_ | (refine Xsplit rfl rfl (fun hc => ?_) (fun hc => ?_) <;> (fail_if_success (with_reducible first | exact tF hc | exact fT hc)) <;> (try simp only [HCl] at hc) <;> (try (exfalso; omega)))) | refine W_seq ?_ | refine W_region ?_ | refine W_skip ?_ | refine W_ret ?_ | refine W_block ?_ | refine W_exit ?_ | refine W_cond_t rfl ?_ | refine W_cond_f rfl ?_ | (refine W_cond rfl (fun hc => ?_) (fun hc => ?_) <;> (try simp only [HCl] at hc) <;> (try (exfalso; omega))))
            refine ⟨j + 1, hjl, by omega, Nat.le_refl _, ?_⟩
            exact TSub.cut rfl (by repeat' (first | exact True.intro | refine And.intro (by (first | rfl | ((with_reducible_and_instances refine congrArg (fun z => some (AV.d (D.i _ z))) ?_); omega) | (refine congrArg (fun z => some (AV.d (D.i _ z))) (?_ : (_ : Int) = _); omega) | (refine congrArg some ?_; simp only [hs']; done) | (refine congrArg some ?_; simp [hs']; done))) ?_)) (by repeat' (first | exact True.intro | refine And.intro (Or.inr rfl) ?_ | refine And.intro (Or.inl ⟨rfl, rfl⟩) ?_ | refine And.intro (Or.inr (by simp only [hs'])) ?_ | refine And.intro (Or.inr (by simp [hs'])) ?_)) (by first | rfl | (simp (decide := true) [heapOk, Blk.ok, AV.oks, AV.ok, hk]; done)) rfl
          · have f3 : decide (n < 0) = false := decide_eq_false h3
            by_cases h4 : farT x p < farT x n
            · have f4 : decide (farT x p < farT x n) = true := decide_eq_true h4
              have hs' : (l.take (j + 1)).foldl (selG (cO x a) (farT x)) (-1) = p := by rw [hs]; exact if_pos ⟨hc, .inr h4⟩
              have nS := And.intro gp (And.intro f2 (And.intro f3 f4))
              repeat' (first | ((with_reducible refine sg ?_); first | with_reducible rfl | ((with_reducible refine fitG ?_); first | kernel_rfl | rfl | (simp [fitT, fitF, nS]; done)) | with_reducible refine andT ?_ ?_ | with_reducible exact Nat.beq_refl _ | with_reducible exact fitsI_u8 _ | ((with_reducible refine decide_eq_true ?_); first | omega | (simp only [SZl, nS]; omega)) | decide | (simp [SZl, slc, allOneD, D.one, allOne, AV.one, nS]; done) | (simp [SZl, nS]; omega)) | ((with_reducible refine gWl ?_); first | (refine Wl_isMv rfl ?_; refine Xmv eok rfl rfl rfl rfl ?_) | refine Xq eok rfl rfl rfl rfl ?_ ?_ | refine Xn [0, 1, 4, 5, 6, 7, 8, 9, 11, 12, 13, 17, 27, 51, 57] rfl ?_ | refine XF (c3) rfl rfl rfl rfl ?_ | refine XF (c4) rfl rfl rfl rfl ?_ | refine XF (c5) rfl rfl rfl rfl ?_ | refine Xw eok rfl rfl rfl rfl ?_ ?_ | refine Xs rfl rfl rfl ?_ | (refine Xsplit rfl rfl (fun hc => ?_) (fun hc => ?_) <;> (fail_if_success (with_reducible first | exact tF hc | exact fT hc)) <;> (try simp only [HCl] at hc) <;> (try (exfalso; omega)))) | refine W_seq ?_ | refine W_region ?_ | refine W_skip ?_ | refine W_ret ?_ | refine W_block ?_ | refine W_exit ?_ | refine W_cond_t rfl ?_ | refine W_cond_f rfl ?_ | (refine W_cond rfl (fun hc => ?_) (fun hc => ?_) <;> (try simp only [HCl] at hc) <;> (try (exfalso; omega))))
              refine ⟨j + 1, hjl, by omega, Nat.le_refl _, ?_⟩
              exact TSub.cut rfl (by repeat' (first | exact True.intro | refine And.intro (by (first | rfl | ((with_reducible_and_instances refine congrArg (fun z => some (AV.d (D.i _ z))) ?_); omega) | (refine congrArg (fun z => some (AV.d (D.i _ z))) (?_ : (_ : Int) = _); omega) | (refine congrArg some ?_; simp only [hs']; done) | (refine congrArg some ?_; simp [hs']; done))) ?_)) (by repeat' (first | exact True.intro | refine And.intro (Or.inr rfl) ?_ | refine And.intro (Or.inl ⟨rfl, rfl⟩) ?_ | refine And.intro (Or.inr (by simp only [hs'])) ?_ | refine And.intro (Or.inr (by simp [hs'])) ?_)) (by first | rfl | (simp (decide := true) [heapOk, Blk.ok, AV.oks, AV.ok, hk]; done)) rfl
            · have f4 : decide (farT x p < farT x n) = false := decide_eq_false h4
              have hs' : (l.take (j + 1)).foldl (selG (cO x a) (farT x)) (-1) = n := by rw [hs]; exact if_neg fun h => h.2.elim h3 h4
              have nS := And.intro gp (And.intro f2 (And.intro f3 f4))
              repeat' (first | ((with_reducible refine sg ?_); first | with_reducible rfl | ((with_reducible refine fitG ?_); first | kernel_rfl | rfl | (simp [fitT, fitF, nS]; done)) | with_reducible refine andT ?_ ?_ | with_reducible exact Nat.beq_refl _ | with_reducible exact fitsI_u8 _ | ((with_reducible refine decide_eq_true ?_); first | omega | (simp only [SZl, nS]; omega)) | decide | (simp [SZl, slc, allOneD, D.one, allOne, AV.one, nS]; done) | (simp [SZl, nS]; omega)) | ((with_reducible refine gWl ?_); first | (refine Wl_isMv rfl ?_; refine Xmv eok rfl rfl rfl rfl ?_) | refine Xq eok rfl rfl rfl rfl ?_ ?_ | refine Xn [0, 1, 4, 5, 6, 7, 8, 9, 11, 12, 13, 17, 27, 51, 57] rfl ?_ | refine XF (c3) rfl rfl rfl rfl ?_ | refine XF (c4) rfl rfl rfl rfl ?_ | refine XF (c5) rfl rfl rfl rfl ?_ | refine Xw eok rfl rfl rfl rfl ?_ ?_ | refine Xs rfl rfl rfl ?_ | (refine Xsplit rfl rfl (fun hc => ?_) (fun hc => ?_) <;> (fail_if_success (with_reducible first | exact tF hc | exact fT hc)) <;> (try simp only [HCl] at hc) <;> (try (exfalso; omega)))) | refine W_seq ?_ | refine W_region ?_ | refine W_skip ?_ | refine W_ret ?_ | refine W_block ?_ | refine W_exit ?_ | refine W_cond_t rfl ?_ | refine W_cond_f rfl ?_ | (refine W_cond rfl (fun hc => ?_) (fun hc => ?_) <;> (try simp only [HCl] at hc) <;> (try (exfalso; omega))))
              refine ⟨j + 1, hjl, by omega, Nat.le_refl _, ?_⟩
              exact TSub.cut rfl (by repeat' (first | exact True.intro | refine And.intro (by (first | rfl | ((with_reducible_and_instances refine congrArg (fun z => some (AV.d (D.i _ z))) ?_); omega) | (refine congrArg (fun z => some (AV.d (D.i _ z))) (?_ : (_ : Int) = _); omega) | (refine congrArg some ?_; simp only [hs']; done) | (refine congrArg some ?_; simp [hs']; done))) ?_)) (by repeat' (first | exact True.intro | refine And.intro (Or.inr rfl) ?_ | refine And.intro (Or.inl ⟨rfl, rfl⟩) ?_ | refine And.intro (Or.inr (by simp only [hs'])) ?_ | refine And.intro (Or.inr (by simp [hs'])) ?_)) (by first | rfl | (simp (decide := true) [heapOk, Blk.ok, AV.oks, AV.ok, hk]; done)) rfl
        · have f2 : decide (farT x p > farT x a) = false := decide_eq_false h2
          have hc : cO x a p = false := by unfold cO; rw [f2, Bool.and_false]
          have hs' : (l.take (j + 1)).foldl (selG (cO x a) (farT x)) (-1) = n := by rw [hs]; exact if_neg fun h => by rw [hc] at h; cases h.1
          have nS := And.intro gp f2
          repeat' (first | ((with_reducible refine sg ?_); first | with_reducible rfl | ((with_reducible refine fitG ?_); first | kernel_rfl | rfl | (simp [fitT, fitF, nS]; done)) | with_reducible refine andT ?_ ?_ | with_reducible exact Nat.beq_refl _ | with_reducible exact fitsI_u8 _ | ((with_reducible refine decide_eq_true ?_); first | omega | (simp only [SZl, nS]; omega)) | decide | (simp [SZl, slc, allOneD, D.one, allOne, AV.one, nS]; done) | (simp [SZl, nS]; omega)) | ((with_reducible refine gWl ?_); first | (refine Wl_isMv rfl ?_; refine Xmv eok rfl rfl rfl rfl ?_) | refine Xq eok rfl rfl rfl rfl ?_ ?_ | refine Xn [0, 1, 4, 5, 6, 7, 8, 9, 11, 12, 13, 17, 27, 51, 57] rfl ?_ | refine XF (c3) rfl rfl rfl rfl ?_ | refine XF (c4) rfl rfl rfl rfl ?_ | refine XF (c5) rfl rfl rfl rfl ?_ | refine Xw eok rfl rfl rfl rfl ?_ ?_ | refine Xs rfl rfl rfl ?_ | (refine Xsplit rfl rfl (fun hc => ?_) (fun hc => ?_) <;> (fail_if_success (with_reducible first | exact tF hc | exact fT hc)) <;> (try simp only [HCl] at hc) <;> (try (exfalso; omega)))) | refine W_seq ?_ | refine W_region ?_ | refine W_skip ?_ | refine W_ret ?_ | refine W_block ?_ | refine W_exit ?_ | refine W_cond_t rfl ?_ | refine W_cond_f rfl ?_ | (refine W_cond rfl (fun hc => ?_) (fun hc => ?_) <;> (try simp only [HCl] at hc) <;> (try (exfalso; omega))))
          refine ⟨j + 1, hjl, by omega, Nat.le_refl _, ?_⟩
          exact TSub.cut rfl (by repeat' (first | exact True.intro | refine And.intro (by (first | rfl | ((with_reducible_and_instances refine congrArg (fun z => some (AV.d (D.i _ z))) ?_); omega) | (refine congrArg (fun z => some (AV.d (D.i _ z))) (?_ : (_ : Int) = _); omega) | (refine congrArg some ?_; simp only [hs']; done) | (refine congrArg some ?_; simp [hs']; done))) ?_)) (by repeat' (first | exact True.intro | refine And.intro (Or.inr rfl) ?_ | refine And.intro (Or.inl ⟨rfl, rfl⟩) ?_ | refine And.intro (Or.inr (by simp only [hs'])) ?_ | refine And.intro (Or.inr (by simp [hs'])) ?_)) (by first | rfl | (simp (decide := true) [heapOk, Blk.ok, AV.oks, AV.ok, hk]; done)) rfl
      · have e : j = l.length := by omega
        subst e
        rw [List.take_length]
        cases hKk : K[k]? with
        | none =>
          rw [x2 hKk]
          have hk2 := List.getElem?_eq_none_iff.1 hKk
          have e1 : K.take (k + 1) = K.take k := by rw [List.take_of_length_le (by omega), List.take_of_length_le hk2]
          have f5 : decide ((-1 : Int) ≥ 0) = false := rfl
          have nS := f5
          repeat' (first | ((with_reducible refine sg ?_); first | with_reducible rfl | ((with_reducible refine fitG ?_); first | kernel_rfl | rfl | (simp [fitT, fitF, nS]; done)) | with_reducible refine andT ?_ ?_ | with_reducible exact Nat.beq_refl _ | with_reducible exact fitsI_u8 _ | ((with_reducible refine decide_eq_true ?_); first | omega | (simp only [SZl, nS]; omega)) | decide | (simp [SZl, slc, allOneD, D.one, allOne, AV.one, nS]; done) | (simp [SZl, nS]; omega)) | ((with_reducible refine gWl ?_); first | (refine Wl_isMv rfl ?_; refine Xmv eok rfl rfl rfl rfl ?_) | refine Xq eok rfl rfl rfl rfl ?_ ?_ | refine Xn [0, 1, 4, 5, 6, 7, 8, 9, 11, 12, 13, 17, 27, 51, 57] rfl ?_ | refine Xw eok rfl rfl rfl rfl ?_ ?_ | refine Xs rfl rfl rfl ?_ | (refine Xsplit rfl rfl (fun hc => ?_) (fun hc => ?_) <;> (fail_if_success (with_reducible first | exact tF hc | exact fT hc)) <;> (try simp only [HCl] at hc) <;> (try (exfalso; omega)))) | refine W_seq ?_ | refine W_region ?_ | refine W_skip ?_ | refine W_ret ?_ | refine W_block ?_ | refine W_exit ?_ | refine W_cond_t rfl ?_ | refine W_cond_f rfl ?_ | (refine W_cond rfl (fun hc => ?_) (fun hc => ?_) <;> (try simp only [HCl] at hc) <;> (try (exfalso; omega))))
          refine ⟨k + 1, hkl, by omega, Nat.le_refl _, ?_⟩
          exact TSub.cut rfl (by repeat' (first | exact True.intro | refine And.intro (by (first | rfl | ((with_reducible_and_instances refine congrArg (fun z => some (AV.d (D.i _ z))) ?_); omega) | (refine congrArg (fun z => some (AV.d (D.i _ z))) (?_ : (_ : Int) = _); omega) | (refine congrArg some ?_; simp only [e1]; done) | (refine congrArg some ?_; simp [e1]; done))) ?_)) (by repeat' (first | exact True.intro | refine And.intro (Or.inr rfl) ?_ | refine And.intro (Or.inl ⟨rfl, rfl⟩) ?_ | refine And.intro (Or.inr (by simp only [e1])) ?_ | refine And.intro (Or.inr (by simp [e1])) ?_)) (by first | rfl | (simp (decide := true) [heapOk, Blk.ok, AV.oks, AV.ok, hk]; done)) rfl
        | some y =>
          rw [x1 y hKk]
          have hy := isPl_t (r4 y ((hm y).1 (List.mem_of_getElem? hKk)).1)
          have f5 : decide (y ≥ 0) = true := decide_eq_true (by omega)
          have ht := take_succ_of hKk
          have nS := f5
          repeat' (first | ((with_reducible refine sg ?_); first | with_reducible rfl | ((with_reducible refine fitG ?_); first | kernel_rfl | rfl | (simp [fitT, fitF, nS]; done)) | with_reducible refine andT ?_ ?_ | with_reducible exact Nat.beq_refl _ | with_reducible exact fitsI_u8 _ | ((with_reducible refine decide_eq_true ?_); first | omega | (simp only [SZl, nS]; omega)) | decide | (simp [SZl, slc, allOneD, D.one, allOne, AV.one, nS]; done) | (simp [SZl, nS]; omega)) | ((with_reducible refine gWl ?_); first | (refine Wl_isMv rfl ?_; refine Xmv eok rfl rfl rfl rfl ?_) | refine Xq eok rfl rfl rfl rfl ?_ ?_ | refine Xn [0, 1, 4, 5, 6, 7, 8, 9, 11, 12, 13, 17, 27, 51, 57] rfl ?_ | refine Xw eok rfl rfl rfl rfl ?_ ?_ | refine Xs rfl rfl rfl ?_ | (refine Xsplit rfl rfl (fun hc => ?_) (fun hc => ?_) <;> (fail_if_success (with_reducible first | exact tF hc | exact fT hc)) <;> (try simp only [HCl] at hc) <;> (try (exfalso; omega)))) | refine W_seq ?_ | refine W_region ?_ | refine W_skip ?_ | refine W_ret ?_ | refine W_block ?_ | refine W_exit ?_ | refine W_cond_t rfl ?_ | refine W_cond_f rfl ?_ | (refine W_cond rfl (fun hc => ?_) (fun hc => ?_) <;> (try simp only [HCl] at hc) <;> (try (exfalso; omega))))
          refine ⟨k + 1, hkl, by omega, Nat.le_refl _, ?_⟩
          exact TSub.cut rfl (by repeat' (first | exact True.intro | refine And.intro (by (first | rfl | ((with_reducible_and_instances refine congrArg (fun z => some (AV.d (D.i _ z))) ?_); omega) | (refine congrArg (fun z => some (AV.d (D.i _ z))) (?_ : (_ : Int) = _); omega) | (refine congrArg some ?_; simp only [ht, List.length_append, List.length_singleton]; done) | (refine congrArg some ?_; simp [ht, List.length_append, List.length_singleton]; done))) ?_)) (by repeat' (first | exact True.intro | refine And.intro (Or.inr rfl) ?_ | refine And.intro (Or.inl ⟨rfl, rfl⟩) ?_ | refine And.intro (Or.inr (by simp only [ht, List.length_append, List.length_singleton])) ?_ | refine And.intro (Or.inr (by simp [ht, List.length_append, List.length_singleton])) ?_)) (by first | rfl | (simp (decide := true) [heapOk, Blk.ok, AV.oks, AV.ok, hk]; done)) rfl
  · have hk2 : K.take k = K := List.take_of_length_le (by omega)
    rw [hk2]
    have nS := True.intro
    repeat' (first | ((with_reducible refine sg ?_); first | with_reducible rfl | ((with_reducible refine fitG ?_); first | kernel_rfl | rfl | (simp [fitT, fitF, nS]; done)) | with_reducible refine andT ?_ ?_ | with_reducible exact Nat.beq_refl _ | with_reducible exact fitsI_u8 _ | ((with_reducible refine decide_eq_true ?_); first | omega | (simp only [SZl, nS]; omega)) | decide | (simp [SZl, slc, allOneD, D.one, allOne, AV.one, nS]; done) | (simp [SZl, nS]; omega)) | ((with_reducible refine gWl ?_); first | (refine Wl_isMv rfl ?_; refine Xmv eok rfl rfl rfl rfl ?_) | refine Xq eok rfl rfl rfl rfl ?_ ?_ | refine Xn [0, 1, 4, 5, 6, 7, 8, 9, 11, 12, 13, 17, 27, 51, 57] rfl ?_ | refine Xw eok rfl rfl rfl rfl ?_ ?_ | refine Xs rfl rfl rfl ?_ | (refine Xsplit rfl rfl (fun hc => ?_) (fun hc => ?_) <;> (fail_if_success (with_reducible first | exact tF hc | exact fT hc)) <;> (try simp only [HCl] at hc) <;> (try (exfalso; omega)))) | refine W_seq ?_ | refine W_region ?_ | refine W_skip ?_ | refine W_ret ?_ | refine W_block ?_ | refine W_exit ?_ | refine W_cond_t rfl ?_ | refine W_cond_f rfl ?_ | (refine W_cond rfl (fun hc => ?_) (fun hc => ?_) <;> (try simp only [HCl] at hc) <;> (try (exfalso; omega))))
    refine ⟨_, _, rfl, rfl, ?_⟩; simp [Frz_tup, Frz_ag, Frzs_cons, Frzs_nil, Frz_d, Frz_e0, Frz_sl, sln, isSl, slOk]
end Go.Proofs.YtjiejhikjlhchaaDoor
