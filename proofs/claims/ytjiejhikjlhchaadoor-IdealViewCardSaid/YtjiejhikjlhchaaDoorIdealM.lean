/- Written by a program (pre.py) from the source of the same name. -/
/- How a circle ought to be: the law that one comes round once. -/
import Derived.Test.YtjiejhikjlhchaaDoorIdealK
import Derived.Test.YtjiejhikjlhchaaDoorIdealL
import Derived.Test.YtjiejhikjlhchaaDoorSkips
set_option linter.unusedSimpArgs false
set_option linter.unusedVariables false
set_option linter.unnecessarySimpa false
namespace Go.Proofs.YtjiejhikjlhchaaDoor
open Go.Gar
set_option maxRecDepth 4000

theorem min3_pos {n : Nat} (h : 3 < n - 1) : (if (3 : Int) < (n : Int) - 1 then (3 : Int) else (n : Int) - 1) = 3 := if_pos (by omega)
theorem tmod_ix (a : Int) {n : Nat} (hn : 0 < n) : (a.tmod n + n).tmod n = ((a % n).toNat : Nat) ∧ (a % n).toNat < n ∧ -(n : Int) ≤ a.tmod n ∧ a.tmod n < n := by
  have hn' : (0 : Int) < n := by omega
  have h1 := Int.emod_nonneg a (show (n : Int) ≠ 0 by omega)
  have h2 := Int.emod_lt_of_pos a hn'
  have h3 : a.tmod n = a % n ∨ a.tmod n = a % n - n := by
    rcases Int.lt_or_le a 0 with h | h
    · rw [Int.tmod_eq_emod]
      split
      · left; omega
      · right
        have : ((n : Int).natAbs : Int) = n := by omega
        omega
    · left; exact Int.tmod_eq_emod_of_nonneg h
  refine ⟨?_, by omega, by omega, by omega⟩
  rw [show (((a % n).toNat : Nat) : Int) = a % n by omega]
  rcases h3 with h3 | h3
  · rw [h3, Int.tmod_eq_emod_of_nonneg (by omega), Int.add_emod_right, Int.emod_emod]
  · rw [h3, show a % (n : Int) - n + n = a % n by omega, Int.tmod_eq_emod_of_nonneg h1, Int.emod_emod]
theorem mem_right {l : List Int} (h1 : 1 ≤ (memT l).length) (h2 : (memT l).length ≤ 12) : rightM (memT l) = true := by
  unfold rightM
  rw [mem_bT, decide_eq_true h1, decide_eq_true h2]; rfl
set_option maxHeartbeats 32000000 in
theorem idealRing_fn (places : List Int) (at' : Int) (hl : places.length ≤ 9223372036854775807) (hat : i64 at') : Go.Gar.Fn Tryd.prog 4 [.is places, .i .i64 at'] (.b true) := by
  have c0 := rMembers_any places hl
  refine Fn_of_W eok Tryd.func4 rfl rfl (Nat.le_of_ble_eq_true rfl) ?_
  by_cases h1 : places.length > 20
  · have f1 : decide ((places.length : Int) > 20) = true := decide_eq_true (by omega)
    have nS := f1
    repeat' (first | ((with_reducible refine sg ?_); first | with_reducible rfl | ((with_reducible refine fitG ?_); first | kernel_rfl | rfl | (simp [fitT, fitF, nS]; done)) | with_reducible refine andT ?_ ?_ | with_reducible exact Nat.beq_refl _ | with_reducible exact fitsI_u8 _ | ((with_reducible refine decide_eq_true ?_); first | omega | (simp only [SZl, nS]; omega)) | decide | (simp [SZl, slc, allOneD, D.one, allOne, AV.one, nS]; done) | (simp [SZl, nS]; omega)) | ((with_reducible refine gWl ?_); first | (refine Wl_isMv rfl ?_; refine Xmv eok rfl rfl rfl rfl ?_) | refine Xq eok rfl rfl rfl rfl ?_ ?_ | refine Xn [0, 1, 4, 5, 6, 7, 8, 9, 10, 11, 26, 45, 69, 77, 105] rfl ?_ | refine XF (c0) rfl rfl rfl rfl ?_ | refine XF (iwakes_fn) rfl rfl rfl rfl ?_ | refine Xs rfl rfl rfl ?_ | (refine Xsplit rfl rfl (fun hc => ?_) (fun hc => ?_) <;> (fail_if_success (with_reducible first | exact tF hc | exact fT hc)) <;> (try simp only [HCl] at hc) <;> (try (exfalso; omega)))) | refine W_seq ?_ | refine W_region ?_ | refine W_skip ?_ | refine W_ret ?_ | refine W_block ?_ | refine W_exit ?_ | refine W_cond_t rfl ?_ | refine W_cond_f rfl ?_ | (refine W_cond rfl (fun hc => ?_) (fun hc => ?_) <;> (try simp only [HCl] at hc) <;> (try (exfalso; omega))))
    refine ⟨_, _, rfl, rfl, ?_⟩; simp [Frz_tup, Frz_ag, Frzs_cons, Frzs_nil, Frz_d, Frz_e0, Frz_sl, sln, isSl, slOk]
  have f1 : decide ((places.length : Int) > 20) = false := decide_eq_false (by omega)
  have hMR := @mem_right places
  generalize memT places = l at *
  by_cases h2 : l.length < 2
  · have f2 : decide ((l.length : Int) < 2) = true := decide_eq_true (by omega)
    have nS := And.intro f1 f2
    repeat' (first | ((with_reducible refine sg ?_); first | with_reducible rfl | ((with_reducible refine fitG ?_); first | kernel_rfl | rfl | (simp [fitT, fitF, nS]; done)) | with_reducible refine andT ?_ ?_ | with_reducible exact Nat.beq_refl _ | with_reducible exact fitsI_u8 _ | ((with_reducible refine decide_eq_true ?_); first | omega | (simp only [SZl, nS]; omega)) | decide | (simp [SZl, slc, allOneD, D.one, allOne, AV.one, nS]; done) | (simp [SZl, nS]; omega)) | ((with_reducible refine gWl ?_); first | (refine Wl_isMv rfl ?_; refine Xmv eok rfl rfl rfl rfl ?_) | refine Xq eok rfl rfl rfl rfl ?_ ?_ | refine Xn [0, 1, 4, 5, 6, 7, 8, 9, 10, 11, 26, 45, 69, 77, 105] rfl ?_ | refine XF (c0) rfl rfl rfl rfl ?_ | refine XF (iwakes_fn) rfl rfl rfl rfl ?_ | refine Xs rfl rfl rfl ?_ | (refine Xsplit rfl rfl (fun hc => ?_) (fun hc => ?_) <;> (fail_if_success (with_reducible first | exact tF hc | exact fT hc)) <;> (try simp only [HCl] at hc) <;> (try (exfalso; omega)))) | refine W_seq ?_ | refine W_region ?_ | refine W_skip ?_ | refine W_ret ?_ | refine W_block ?_ | refine W_exit ?_ | refine W_cond_t rfl ?_ | refine W_cond_f rfl ?_ | (refine W_cond rfl (fun hc => ?_) (fun hc => ?_) <;> (try simp only [HCl] at hc) <;> (try (exfalso; omega))))
    refine ⟨_, _, rfl, rfl, ?_⟩; simp [Frz_tup, Frz_ag, Frzs_cons, Frzs_nil, Frz_d, Frz_e0, Frz_sl, sln, isSl, slOk]
  have f2 : decide ((l.length : Int) < 2) = false := decide_eq_false (by omega)
  by_cases h3 : l.length > 12
  · have f3 : decide ((l.length : Int) > 12) = true := decide_eq_true (by omega)
    have nS := And.intro f1 (And.intro f2 f3)
    repeat' (first | ((with_reducible refine sg ?_); first | with_reducible rfl | ((with_reducible refine fitG ?_); first | kernel_rfl | rfl | (simp [fitT, fitF, nS]; done)) | with_reducible refine andT ?_ ?_ | with_reducible exact Nat.beq_refl _ | with_reducible exact fitsI_u8 _ | ((with_reducible refine decide_eq_true ?_); first | omega | (simp only [SZl, nS]; omega)) | decide | (simp [SZl, slc, allOneD, D.one, allOne, AV.one, nS]; done) | (simp [SZl, nS]; omega)) | ((with_reducible refine gWl ?_); first | (refine Wl_isMv rfl ?_; refine Xmv eok rfl rfl rfl rfl ?_) | refine Xq eok rfl rfl rfl rfl ?_ ?_ | refine Xn [0, 1, 4, 5, 6, 7, 8, 9, 10, 11, 26, 45, 69, 77, 105] rfl ?_ | refine XF (c0) rfl rfl rfl rfl ?_ | refine XF (iwakes_fn) rfl rfl rfl rfl ?_ | refine Xs rfl rfl rfl ?_ | (refine Xsplit rfl rfl (fun hc => ?_) (fun hc => ?_) <;> (fail_if_success (with_reducible first | exact tF hc | exact fT hc)) <;> (try simp only [HCl] at hc) <;> (try (exfalso; omega)))) | refine W_seq ?_ | refine W_region ?_ | refine W_skip ?_ | refine W_ret ?_ | refine W_block ?_ | refine W_exit ?_ | refine W_cond_t rfl ?_ | refine W_cond_f rfl ?_ | (refine W_cond rfl (fun hc => ?_) (fun hc => ?_) <;> (try simp only [HCl] at hc) <;> (try (exfalso; omega))))
    refine ⟨_, _, rfl, rfl, ?_⟩; simp [Frz_tup, Frz_ag, Frzs_cons, Frzs_nil, Frz_d, Frz_e0, Frz_sl, sln, isSl, slOk]
  have f3 : decide ((l.length : Int) > 12) = false := decide_eq_false (by omega)
  have hR : rightM l = true := hMR (by omega) (by omega)
  obtain ⟨r1, r2, r3, r4⟩ := rightM_t hR
  obtain ⟨t1, t2, t3, t4⟩ := tmod_ix at' (n := l.length) (by omega)
  generalize (at' % (l.length : Int)).toNat = i0 at *
  have gF := getD_of (List.getElem?_eq_getElem t2)
  have hFg := getD_get t2
  have hpl : ∀ a, a < l.length → isPl (l.getD a 0) = true := fun a ha => by rw [getD_get ha]; exact r4 _ (List.getElem_mem ha)
  have nz : ((l.length : Int) == 0) = false := eq_false' (by omega)
  have nS := And.intro f1 (And.intro f2 (And.intro f3 (And.intro t1 nz)))
  repeat' (first | ((with_reducible refine sg ?_); first | with_reducible rfl | ((with_reducible refine fitG ?_); first | kernel_rfl | rfl | (simp [fitT, fitF, nS]; done)) | with_reducible refine andT ?_ ?_ | with_reducible exact Nat.beq_refl _ | with_reducible exact fitsI_u8 _ | ((with_reducible refine decide_eq_true ?_); first | omega | (simp only [SZl, nS]; omega)) | decide | (simp [SZl, slc, allOneD, D.one, allOne, AV.one, nS]; done) | (simp [SZl, nS]; omega)) | ((with_reducible refine gWl ?_); first | (refine Wl_isMv rfl ?_; refine Xmv eok rfl rfl rfl rfl ?_) | refine Xq eok rfl rfl rfl rfl ?_ ?_ | refine Xn [0, 1, 4, 5, 6, 7, 8, 9, 10, 11, 26, 45, 69, 77, 105] rfl ?_ | refine XF (c0) rfl rfl rfl rfl ?_ | refine XF (iwakes_fn) rfl rfl rfl rfl ?_ | refine Xs rfl rfl rfl ?_ | (refine Xsplit rfl rfl (fun hc => ?_) (fun hc => ?_) <;> (fail_if_success (with_reducible first | exact tF hc | exact fT hc)) <;> (try simp only [HCl] at hc) <;> (try (exfalso; omega)))) | refine W_seq ?_ | refine W_region ?_ | refine W_skip ?_ | refine W_ret ?_ | refine W_block ?_ | refine W_exit ?_ | refine W_cond_t rfl ?_ | refine W_cond_f rfl ?_ | (refine W_cond rfl (fun hc => ?_) (fun hc => ?_) <;> (try simp only [HCl] at hc) <;> (try (exfalso; omega))))
  have hi1 : ∀ k, k ≤ l.length → ixR l.length i0 k < l.length := fun k hk => by unfold ixR; split <;> omega
  have e0 : ixR l.length i0 0 = i0 := if_pos (by omega)
  have s0 : sumR l i0 0 = 0 := by
    have : sumR l i0 0 = l.getD (i0 + 0) 0 - l.getD i0 0 := if_pos (by omega)
    rw [this, Nat.add_zero]; omega
  have sn : sumR l i0 l.length = 65536 := by
    have : sumR l i0 l.length = l.getD (i0 + l.length - l.length) 0 - l.getD i0 0 + 65536 := if_neg (by omega)
    rw [this, Nat.add_sub_cancel]; omega
  refine W_loopI (fun k => k ≤ l.length) (fun k : Nat => ⟨[(4, .d (.b false)), (5, .d (.is l)), (6, .d (.i .i64 (l.getD i0 0))), (7, .d (.i .i64 (l.getD (ixR l.length i0 k) 0))), (8, .d (.i .i64 (sumR l i0 k))), (9, .d (.i .i64 k))], [], 112⟩) (fun k => l.length - k) 0 (Nat.zero_le _) ?_ (Nat.le_refl _) ?_
  · exact TSub.cut rfl (by repeat' (first | exact True.intro | refine And.intro (by (first | rfl | ((with_reducible_and_instances refine congrArg (fun z => some (AV.d (D.i _ z))) ?_); omega) | (refine congrArg (fun z => some (AV.d (D.i _ z))) (?_ : (_ : Int) = _); omega) | (refine congrArg some ?_; simp only [e0, s0]; done) | (refine congrArg some ?_; simp [e0, s0]; done))) ?_)) (by repeat' (first | exact True.intro | refine And.intro (Or.inr rfl) ?_ | refine And.intro (Or.inl ⟨rfl, rfl⟩) ?_ | refine And.intro (Or.inr (by simp only [e0, s0])) ?_ | refine And.intro (Or.inr (by simp [e0, s0])) ?_)) (by first | rfl | (simp (decide := true) [heapOk, Blk.ok, AV.oks, AV.ok, hk]; done)) rfl
  intro k hk
  by_cases hkl : k < l.length
  · have hj := hi1 k hk
    have hj1 := hi1 (k + 1) hkl
    have ej : ixR l.length (ixR l.length i0 k) 1 = ixR l.length i0 (k + 1) := by
      unfold ixR
      split <;> split <;> (try split) <;> omega
    obtain ⟨p1, p2, p3, p4, p5⟩ := sum_step hR (by omega) t2 hkl
    obtain ⟨_, q1⟩ := rot_head hR (by omega) hj
    obtain ⟨_, q2⟩ := rot_last hR (by omega) hj
    have gx := getD_get hj
    have gy := getD_get hj1
    simp only [ej] at q1 q2
    rw [← gx] at q1 q2
    rw [← gy] at q1 q2
    obtain ⟨l1, l2, l3, l4⟩ := list_ok hR (x := l.getD (ixR l.length i0 k) 0) (by rw [gx]; exact List.getElem_mem hj)
    have hx := i64_pl (hpl _ hj)
    have hy := i64_pl (hpl _ hj1)
    have hf := i64_pl (hpl _ t2)
    have c1 := iList_fn l (l.getD (ixR l.length i0 k) 0) (by omega)
    have c2 := rRight_fn (l.getD (ixR l.length i0 k) 0) (listT l (l.getD (ixR l.length i0 k) 0)) hx (fun y hy => i64_pl (r4 y (l4 y hy).1)) (by have := listT_len l (l.getD (ixR l.length i0 k) 0); omega)
    rw [l1] at c2
    have c3 := Skips_fn (l.getD (ixR l.length i0 k) 0) (listT l (l.getD (ixR l.length i0 k) 0)) l hx (fun y hy => i64_pl (r4 y (l4 y hy).1)) (fun y hy => i64_pl (r4 y hy)) (by have := listT_len l (l.getD (ixR l.length i0 k) 0); omega) (by omega)
    rw [l2] at c3
    have c4 := iPred_fn l (l.getD (ixR l.length i0 (k + 1)) 0) (by omega)
    rw [q2] at c4
    have c5 := rFar_fn _ _ hx hy
    have c6 := rFar_fn _ _ hf hy
    have gL := getD_of q1
    have hLp := (List.getElem?_eq_some_iff.1 q1).1
    have hfl := farT_lt (l.getD (ixR l.length i0 k) 0) (l.getD (ixR l.length i0 (k + 1)) 0)
    clear l1 l2 l4 q1 q2 gx gy gF hFg hpl e0 s0 sn hi1 hMR
    generalize listT l (l.getD (ixR l.length i0 k) 0) = L at *
    generalize l.getD (ixR l.length i0 k) 0 = x at *
    generalize hyy : l.getD (ixR l.length i0 (k + 1)) 0 = y at *
    generalize l.getD i0 0 = F at *
    generalize sumR l i0 k = S at *
    have m : (if (3 : Int) < (l.length : Int) - 1 then (3 : Int) else (l.length : Int) - 1) = (L.length : Int) := by
      split <;> omega
    have f4 := ne_false (rfl : (L.length : Int) = (L.length : Int))
    have f5 := ne_false (rfl : x = x)
    have f6 : S + farT x y = sumR l i0 (k + 1) := p1.symm
    generalize hS2 : sumR l i0 (k + 1) = S2 at *
    by_cases hlast : k + 1 = l.length
    · have g1 := eq_true' (p5.2 hlast)
      have g2 : ((k : Int) == (l.length : Int) - 1) = true := eq_true' (by omega)
      have g3 : decide ((k : Int) < (l.length : Int) - 1) = false := decide_eq_false (by omega)
      have nS := And.intro m (And.intro f4 (And.intro gL (And.intro f5 (And.intro f6 (And.intro g1 (And.intro g2 g3))))))
      repeat' (first | ((with_reducible refine sg ?_); first | with_reducible rfl | ((with_reducible refine fitG ?_); first | kernel_rfl | rfl | (simp [fitT, fitF, nS]; done)) | with_reducible refine andT ?_ ?_ | with_reducible exact Nat.beq_refl _ | with_reducible exact fitsI_u8 _ | ((with_reducible refine decide_eq_true ?_); first | omega | (simp only [SZl, nS]; omega)) | decide | (simp [SZl, slc, allOneD, D.one, allOne, AV.one, nS]; done) | (simp [SZl, nS]; omega)) | ((with_reducible refine gWl ?_); first | (refine Wl_isMv rfl ?_; refine Xmv eok rfl rfl rfl rfl ?_) | refine Xq eok rfl rfl rfl rfl ?_ ?_ | refine Xn [0, 1, 4, 5, 6, 7, 8, 9, 10, 11, 26, 45, 69, 77, 105] rfl ?_ | refine XF (c1) rfl rfl rfl rfl ?_ | refine XF (c2) rfl rfl rfl rfl ?_ | refine XF (c3) rfl rfl rfl rfl ?_ | refine XF (c4) rfl rfl rfl rfl ?_ | refine XF (c5) rfl rfl rfl rfl ?_ | refine XF (c6) rfl rfl rfl rfl ?_ | refine XF (iwakes_fn) rfl rfl rfl rfl ?_ | refine Xs rfl rfl rfl ?_ | (refine Xsplit rfl rfl (fun hc => ?_) (fun hc => ?_) <;> (fail_if_success (with_reducible first | exact tF hc | exact fT hc)) <;> (try simp only [HCl] at hc) <;> (try (exfalso; omega)))) | refine W_seq ?_ | refine W_region ?_ | refine W_skip ?_ | refine W_ret ?_ | refine W_block ?_ | refine W_exit ?_ | refine W_cond_t rfl ?_ | refine W_cond_f rfl ?_ | (refine W_cond rfl (fun hc => ?_) (fun hc => ?_) <;> (try simp only [HCl] at hc) <;> (try (exfalso; omega))))
      refine ⟨k + 1, hkl, by omega, Nat.le_refl _, ?_⟩
      exact TSub.cut rfl (by repeat' (first | exact True.intro | refine And.intro (by (first | rfl | ((with_reducible_and_instances refine congrArg (fun z => some (AV.d (D.i _ z))) ?_); omega) | (refine congrArg (fun z => some (AV.d (D.i _ z))) (?_ : (_ : Int) = _); omega) | (refine congrArg some ?_; simp only [hyy, hS2]; done) | (refine congrArg some ?_; simp [hyy, hS2]; done))) ?_)) (by repeat' (first | exact True.intro | refine And.intro (Or.inr rfl) ?_ | refine And.intro (Or.inl ⟨rfl, rfl⟩) ?_ | refine And.intro (Or.inr (by simp only [hyy, hS2])) ?_ | refine And.intro (Or.inr (by simp [hyy, hS2])) ?_)) (by first | rfl | (simp (decide := true) [heapOk, Blk.ok, AV.oks, AV.ok, hk]; done)) rfl
    · have g1 := eq_false' (fun h => hlast (p5.1 h))
      have g2 : ((k : Int) == (l.length : Int) - 1) = false := eq_false' (by omega)
      have g3 : decide ((k : Int) < (l.length : Int) - 1) = true := decide_eq_true (by omega)
      have g4 : (S2 != farT F y) = false := ne_false (p4 (by omega)).symm
      have nS := And.intro m (And.intro f4 (And.intro gL (And.intro f5 (And.intro f6 (And.intro g1 (And.intro g2 (And.intro g3 g4)))))))
      repeat' (first | ((with_reducible refine sg ?_); first | with_reducible rfl | ((with_reducible refine fitG ?_); first | kernel_rfl | rfl | (simp [fitT, fitF, nS]; done)) | with_reducible refine andT ?_ ?_ | with_reducible exact Nat.beq_refl _ | with_reducible exact fitsI_u8 _ | ((with_reducible refine decide_eq_true ?_); first | omega | (simp only [SZl, nS]; omega)) | decide | (simp [SZl, slc, allOneD, D.one, allOne, AV.one, nS]; done) | (simp [SZl, nS]; omega)) | ((with_reducible refine gWl ?_); first | (refine Wl_isMv rfl ?_; refine Xmv eok rfl rfl rfl rfl ?_) | refine Xq eok rfl rfl rfl rfl ?_ ?_ | refine Xn [0, 1, 4, 5, 6, 7, 8, 9, 10, 11, 26, 45, 69, 77, 105] rfl ?_ | refine XF (c1) rfl rfl rfl rfl ?_ | refine XF (c2) rfl rfl rfl rfl ?_ | refine XF (c3) rfl rfl rfl rfl ?_ | refine XF (c4) rfl rfl rfl rfl ?_ | refine XF (c5) rfl rfl rfl rfl ?_ | refine XF (c6) rfl rfl rfl rfl ?_ | refine XF (iwakes_fn) rfl rfl rfl rfl ?_ | refine Xs rfl rfl rfl ?_ | (refine Xsplit rfl rfl (fun hc => ?_) (fun hc => ?_) <;> (fail_if_success (with_reducible first | exact tF hc | exact fT hc)) <;> (try simp only [HCl] at hc) <;> (try (exfalso; omega)))) | refine W_seq ?_ | refine W_region ?_ | refine W_skip ?_ | refine W_ret ?_ | refine W_block ?_ | refine W_exit ?_ | refine W_cond_t rfl ?_ | refine W_cond_f rfl ?_ | (refine W_cond rfl (fun hc => ?_) (fun hc => ?_) <;> (try simp only [HCl] at hc) <;> (try (exfalso; omega))))
      refine ⟨k + 1, hkl, by omega, Nat.le_refl _, ?_⟩
      exact TSub.cut rfl (by repeat' (first | exact True.intro | refine And.intro (by (first | rfl | ((with_reducible_and_instances refine congrArg (fun z => some (AV.d (D.i _ z))) ?_); omega) | (refine congrArg (fun z => some (AV.d (D.i _ z))) (?_ : (_ : Int) = _); omega) | (refine congrArg some ?_; simp only [hyy, hS2]; done) | (refine congrArg some ?_; simp [hyy, hS2]; done))) ?_)) (by repeat' (first | exact True.intro | refine And.intro (Or.inr rfl) ?_ | refine And.intro (Or.inl ⟨rfl, rfl⟩) ?_ | refine And.intro (Or.inr (by simp only [hyy, hS2])) ?_ | refine And.intro (Or.inr (by simp [hyy, hS2])) ?_)) (by first | rfl | (simp (decide := true) [heapOk, Blk.ok, AV.oks, AV.ok, hk]; done)) rfl
  · have e : k = l.length := by omega
    subst e
    rw [sn]
    have g := eq_true' (rfl : (65536 : Int) = 65536)
    have nS := g
    repeat' (first | ((with_reducible refine sg ?_); first | with_reducible rfl | ((with_reducible refine fitG ?_); first | kernel_rfl | rfl | (simp [fitT, fitF, nS]; done)) | with_reducible refine andT ?_ ?_ | with_reducible exact Nat.beq_refl _ | with_reducible exact fitsI_u8 _ | ((with_reducible refine decide_eq_true ?_); first | omega | (simp only [SZl, nS]; omega)) | decide | (simp [SZl, slc, allOneD, D.one, allOne, AV.one, nS]; done) | (simp [SZl, nS]; omega)) | ((with_reducible refine gWl ?_); first | (refine Wl_isMv rfl ?_; refine Xmv eok rfl rfl rfl rfl ?_) | refine Xq eok rfl rfl rfl rfl ?_ ?_ | refine Xn [0, 1, 4, 5, 6, 7, 8, 9, 10, 11, 26, 45, 69, 77, 105] rfl ?_ | refine XF (iwakes_fn) rfl rfl rfl rfl ?_ | refine Xs rfl rfl rfl ?_ | (refine Xsplit rfl rfl (fun hc => ?_) (fun hc => ?_) <;> (fail_if_success (with_reducible first | exact tF hc | exact fT hc)) <;> (try simp only [HCl] at hc) <;> (try (exfalso; omega)))) | refine W_seq ?_ | refine W_region ?_ | refine W_skip ?_ | refine W_ret ?_ | refine W_block ?_ | refine W_exit ?_ | refine W_cond_t rfl ?_ | refine W_cond_f rfl ?_ | (refine W_cond rfl (fun hc => ?_) (fun hc => ?_) <;> (try simp only [HCl] at hc) <;> (try (exfalso; omega))))
    refine ⟨_, _, rfl, rfl, ?_⟩; simp [Frz_tup, Frz_ag, Frzs_cons, Frzs_nil, Frz_d, Frz_e0, Frz_sl, sln, isSl, slOk]
end Go.Proofs.YtjiejhikjlhchaaDoor
