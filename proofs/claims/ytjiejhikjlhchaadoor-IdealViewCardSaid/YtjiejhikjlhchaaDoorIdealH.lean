/- Written by a program (pre.py) from the source of the same name. -/
/- How a circle ought to be: fingers (written by genIdealH.py). -/
import Derived.Test.YtjiejhikjlhchaaDoorIdealG
set_option linter.unusedSimpArgs false
set_option linter.unusedVariables false
set_option linter.unnecessarySimpa false
namespace Go.Proofs.YtjiejhikjlhchaaDoor
open Go.Gar
set_option maxRecDepth 4000

def fingT (l : List Int) (x : Int) (i : Nat) : Int := if ownT (stT x i) l = x then -1 else ownT (stT x i) l
/-- k fingers are told. -/
def FInv (F : Nat → Int) (x : Nat × (Nat → Int)) : Prop := x.1 ≤ 16 ∧ ∀ i, x.2 i = if i < x.1 then F i else 0
theorem FInv0 {F : Nat → Int} : FInv F (0, fun _ => 0) := ⟨Nat.zero_le _, fun i => rfl⟩
theorem FInv.next {F : Nat → Int} {k : Nat} {h : Nat → Int} {v : Int} (hi : FInv F (k, h)) (hk : k < 16) (e : F k = v) : FInv F (k + 1, fun i => if i = k then v else h i) := by
  refine ⟨hk, fun i => ?_⟩
  have := hi.2 i
  dsimp only at this ⊢
  by_cases e1 : i = k
  · subst e1; rw [if_pos rfl, if_pos (show i < i + 1 by omega), e]
  · rw [if_neg e1, this]
    by_cases e2 : i < k
    · rw [if_pos e2, if_pos (show i < k + 1 by omega)]
    · rw [if_neg e2, if_neg (show ¬ i < k + 1 by omega)]
theorem FInv.end {F : Nat → Int} {h : Nat → Int} (hi : FInv F (16, h)) (i : Nat) (hk : i < 16) : h i = F i := by
  have := hi.2 i
  rwa [if_pos (show i < 16 from hk)] at this
theorem stT_pl (a i : Int) : i64 (stT a i) := by
  unfold stT
  split
  · have := plT_lt (plT a + 2 ^ i.toNat); unfold i64; omega
  · have := plT_lt a; unfold i64; omega
set_option maxHeartbeats 16000000 in
theorem iFingers_fn (l : List Int) (x : Int) (hR : rightM l = true) : Go.Gar.Fn Tryd.prog 38 [.is l, .i .i64 x] (.agg [.i .i64 (fingT l x 0), .i .i64 (fingT l x 1), .i .i64 (fingT l x 2), .i .i64 (fingT l x 3), .i .i64 (fingT l x 4), .i .i64 (fingT l x 5), .i .i64 (fingT l x 6), .i .i64 (fingT l x 7), .i .i64 (fingT l x 8), .i .i64 (fingT l x 9), .i .i64 (fingT l x 10), .i .i64 (fingT l x 11), .i .i64 (fingT l x 12), .i .i64 (fingT l x 13), .i .i64 (fingT l x 14), .i .i64 (fingT l x 15)]) := by
  have hne : l ≠ [] := List.length_pos_iff.1 (rightM_t hR).1
  have hl12 := (rightM_t hR).2.1
  have hpl := (rightM_t hR).2.2.2
  refine Fn_of_W eok Tryd.func38 rfl rfl (Nat.le_of_ble_eq_true rfl) ?_
  have hF : ∀ k, fingT l x k = if ownT (stT x k) l = x then -1 else ownT (stT x k) l := fun k => rfl
  generalize fingT l x = F at *
  have nS := True.intro
  repeat' (first | ((with_reducible refine sg ?_); first | with_reducible rfl | ((with_reducible refine fitG ?_); first | kernel_rfl | rfl | (simp [fitT, fitF, nS]; done)) | with_reducible refine andT ?_ ?_ | with_reducible exact Nat.beq_refl _ | with_reducible exact fitsI_u8 _ | ((with_reducible refine decide_eq_true ?_); first | omega | (simp only [SZl, nS]; omega)) | decide | (simp [SZl, slc, allOneD, D.one, allOne, AV.one, nS]; done) | (simp [SZl, nS]; omega)) | ((with_reducible refine gWl ?_); first | (refine Wl_isMv rfl ?_; refine Xmv eok rfl rfl rfl rfl ?_) | refine Xq eok rfl rfl rfl rfl ?_ ?_ | refine Xn [0, 1, 4, 5, 6, 7, 8, 9, 25] rfl ?_ | refine Xa eok rfl rfl rfl rfl rfl ?_ ?_ | refine Xw eok rfl rfl rfl rfl ?_ ?_ | refine Xs rfl rfl rfl ?_ | (refine Xsplit rfl rfl (fun hc => ?_) (fun hc => ?_) <;> (fail_if_success (with_reducible first | exact tF hc | exact fT hc)) <;> (try simp only [HCl] at hc) <;> (try (exfalso; omega)))) | refine W_seq ?_ | refine W_region ?_ | refine W_skip ?_ | refine W_ret ?_ | refine W_block ?_ | refine W_exit ?_ | refine W_cond_t rfl ?_ | refine W_cond_f rfl ?_ | (refine W_cond rfl (fun hc => ?_) (fun hc => ?_) <;> (try simp only [HCl] at hc) <;> (try (exfalso; omega))))
  refine W_loopI (FInv F) (fun x_ => ⟨[(0, .d (.is l)), (1, .d (.i .i64 x)), (4, .ptr 0 0 16), (8, .d (.i .i64 x_.1))], [.c [.d (.i .i64 (x_.2 0)), .d (.i .i64 (x_.2 1)), .d (.i .i64 (x_.2 2)), .d (.i .i64 (x_.2 3)), .d (.i .i64 (x_.2 4)), .d (.i .i64 (x_.2 5)), .d (.i .i64 (x_.2 6)), .d (.i .i64 (x_.2 7)), .d (.i .i64 (x_.2 8)), .d (.i .i64 (x_.2 9)), .d (.i .i64 (x_.2 10)), .d (.i .i64 (x_.2 11)), .d (.i .i64 (x_.2 12)), .d (.i .i64 (x_.2 13)), .d (.i .i64 (x_.2 14)), .d (.i .i64 (x_.2 15))]], 31⟩) (fun x_ => 16 - x_.1) (0, fun _ => 0) FInv0 ?_ (Nat.le_refl _) ?_
  · exact TSub.cut rfl (by repeat' (first | exact True.intro | refine And.intro (by (first | rfl | ((with_reducible_and_instances refine congrArg (fun z => some (AV.d (D.i _ z))) ?_); omega) | (refine congrArg (fun z => some (AV.d (D.i _ z))) (?_ : (_ : Int) = _); omega) | (refine congrArg some ?_; simp; done))) ?_)) (by repeat' (first | exact True.intro | refine And.intro (Or.inr rfl) ?_ | refine And.intro (Or.inl ⟨rfl, rfl⟩) ?_ | refine And.intro (Or.inr (by simp)) ?_)) (by first | rfl | (simp (decide := true) [heapOk, Blk.ok, AV.oks, AV.ok, hk]; done)) rfl
  rintro ⟨k, h⟩ hi
  have hk : k ≤ 16 := hi.1
  by_cases hk2 : k < 16
  · have e3 := hF k
    have c1 := Start_fn x k
    have c2 := aOwner_fn l (stT x k) (by omega)
    rw [decide_eq_true hne] at c2
    generalize stT x k = s at *
    generalize ownT s l = o at *
    by_cases e : o = x
    · have g := eq_true' e
      rw [if_pos e] at e3
      have hn := hi.next hk2 e3
      clear e3 hF
      rcases lt16 hk2 with rfl | rfl | rfl | rfl | rfl | rfl | rfl | rfl | rfl | rfl | rfl | rfl | rfl | rfl | rfl | rfl
      all_goals
        have nS := g
        repeat' (first | ((with_reducible refine sg ?_); first | with_reducible rfl | ((with_reducible refine fitG ?_); first | kernel_rfl | rfl | (simp [fitT, fitF, nS]; done)) | with_reducible refine andT ?_ ?_ | with_reducible exact Nat.beq_refl _ | with_reducible exact fitsI_u8 _ | ((with_reducible refine decide_eq_true ?_); first | omega | (simp only [SZl, nS]; omega)) | decide | (simp [SZl, slc, allOneD, D.one, allOne, AV.one, nS]; done) | (simp [SZl, nS]; omega)) | ((with_reducible refine gWl ?_); first | (refine Wl_isMv rfl ?_; refine Xmv eok rfl rfl rfl rfl ?_) | refine Xq eok rfl rfl rfl rfl ?_ ?_ | refine Xn [0, 1, 4, 5, 6, 7, 8, 9, 25] rfl ?_ | refine XF (c1) rfl rfl rfl rfl ?_ | refine XF (c2) rfl rfl rfl rfl ?_ | refine Xa eok rfl rfl rfl rfl rfl ?_ ?_ | refine Xw eok rfl rfl rfl rfl ?_ ?_ | refine Xs rfl rfl rfl ?_ | (refine Xsplit rfl rfl (fun hc => ?_) (fun hc => ?_) <;> (fail_if_success (with_reducible first | exact tF hc | exact fT hc)) <;> (try simp only [HCl] at hc) <;> (try (exfalso; omega)))) | refine W_seq ?_ | refine W_region ?_ | refine W_skip ?_ | refine W_ret ?_ | refine W_block ?_ | refine W_exit ?_ | refine W_cond_t rfl ?_ | refine W_cond_f rfl ?_ | (refine W_cond rfl (fun hc => ?_) (fun hc => ?_) <;> (try simp only [HCl] at hc) <;> (try (exfalso; omega))))
        refine ⟨_, hn, (by dsimp only; omega), Nat.le_refl _, ?_⟩
        exact TSub.cut rfl (by repeat' (first | exact True.intro | refine And.intro (by (first | rfl | ((with_reducible_and_instances refine congrArg (fun z => some (AV.d (D.i _ z))) ?_); omega) | (refine congrArg (fun z => some (AV.d (D.i _ z))) (?_ : (_ : Int) = _); omega) | (refine congrArg some ?_; simp; done))) ?_)) (by repeat' (first | exact True.intro | refine And.intro (Or.inr rfl) ?_ | refine And.intro (Or.inl ⟨rfl, rfl⟩) ?_ | refine And.intro (Or.inr (by simp)) ?_)) (by first | rfl | (simp (decide := true) [heapOk, Blk.ok, AV.oks, AV.ok, hk]; done)) rfl
    · have g := eq_false' e
      rw [if_neg e] at e3
      have hn := hi.next hk2 e3
      clear e3 hF
      rcases lt16 hk2 with rfl | rfl | rfl | rfl | rfl | rfl | rfl | rfl | rfl | rfl | rfl | rfl | rfl | rfl | rfl | rfl
      all_goals
        have nS := g
        repeat' (first | ((with_reducible refine sg ?_); first | with_reducible rfl | ((with_reducible refine fitG ?_); first | kernel_rfl | rfl | (simp [fitT, fitF, nS]; done)) | with_reducible refine andT ?_ ?_ | with_reducible exact Nat.beq_refl _ | with_reducible exact fitsI_u8 _ | ((with_reducible refine decide_eq_true ?_); first | omega | (simp only [SZl, nS]; omega)) | decide | (simp [SZl, slc, allOneD, D.one, allOne, AV.one, nS]; done) | (simp [SZl, nS]; omega)) | ((with_reducible refine gWl ?_); first | (refine Wl_isMv rfl ?_; refine Xmv eok rfl rfl rfl rfl ?_) | refine Xq eok rfl rfl rfl rfl ?_ ?_ | refine Xn [0, 1, 4, 5, 6, 7, 8, 9, 25] rfl ?_ | refine XF (c1) rfl rfl rfl rfl ?_ | refine XF (c2) rfl rfl rfl rfl ?_ | refine Xa eok rfl rfl rfl rfl rfl ?_ ?_ | refine Xw eok rfl rfl rfl rfl ?_ ?_ | refine Xs rfl rfl rfl ?_ | (refine Xsplit rfl rfl (fun hc => ?_) (fun hc => ?_) <;> (fail_if_success (with_reducible first | exact tF hc | exact fT hc)) <;> (try simp only [HCl] at hc) <;> (try (exfalso; omega)))) | refine W_seq ?_ | refine W_region ?_ | refine W_skip ?_ | refine W_ret ?_ | refine W_block ?_ | refine W_exit ?_ | refine W_cond_t rfl ?_ | refine W_cond_f rfl ?_ | (refine W_cond rfl (fun hc => ?_) (fun hc => ?_) <;> (try simp only [HCl] at hc) <;> (try (exfalso; omega))))
        refine ⟨_, hn, (by dsimp only; omega), Nat.le_refl _, ?_⟩
        exact TSub.cut rfl (by repeat' (first | exact True.intro | refine And.intro (by (first | rfl | ((with_reducible_and_instances refine congrArg (fun z => some (AV.d (D.i _ z))) ?_); omega) | (refine congrArg (fun z => some (AV.d (D.i _ z))) (?_ : (_ : Int) = _); omega) | (refine congrArg some ?_; simp; done))) ?_)) (by repeat' (first | exact True.intro | refine And.intro (Or.inr rfl) ?_ | refine And.intro (Or.inl ⟨rfl, rfl⟩) ?_ | refine And.intro (Or.inr (by simp)) ?_)) (by first | rfl | (simp (decide := true) [heapOk, Blk.ok, AV.oks, AV.ok, hk]; done)) rfl
  · have e16 : k = 16 := by omega
    subst e16
    clear hF
    have nS := True.intro
    repeat' (first | ((with_reducible refine sg ?_); first | with_reducible rfl | ((with_reducible refine fitG ?_); first | kernel_rfl | rfl | (simp [fitT, fitF, nS]; done)) | with_reducible refine andT ?_ ?_ | with_reducible exact Nat.beq_refl _ | with_reducible exact fitsI_u8 _ | ((with_reducible refine decide_eq_true ?_); first | omega | (simp only [SZl, nS]; omega)) | decide | (simp [SZl, slc, allOneD, D.one, allOne, AV.one, nS]; done) | (simp [SZl, nS]; omega)) | ((with_reducible refine gWl ?_); first | (refine Wl_isMv rfl ?_; refine Xmv eok rfl rfl rfl rfl ?_) | refine Xq eok rfl rfl rfl rfl ?_ ?_ | refine Xn [0, 1, 4, 5, 6, 7, 8, 9, 25] rfl ?_ | refine Xa eok rfl rfl rfl rfl rfl ?_ ?_ | refine Xw eok rfl rfl rfl rfl ?_ ?_ | refine Xs rfl rfl rfl ?_ | (refine Xsplit rfl rfl (fun hc => ?_) (fun hc => ?_) <;> (fail_if_success (with_reducible first | exact tF hc | exact fT hc)) <;> (try simp only [HCl] at hc) <;> (try (exfalso; omega)))) | refine W_seq ?_ | refine W_region ?_ | refine W_skip ?_ | refine W_ret ?_ | refine W_block ?_ | refine W_exit ?_ | refine W_cond_t rfl ?_ | refine W_cond_f rfl ?_ | (refine W_cond rfl (fun hc => ?_) (fun hc => ?_) <;> (try simp only [HCl] at hc) <;> (try (exfalso; omega))))
    refine ⟨_, _, rfl, rfl, ?_⟩; simp [Frz_tup, Frz_ag, Frzs_cons, Frzs_nil, Frz_d, Frz_e0, Frz_sl, sln, isSl, slOk, hi.end 0 (by decide), hi.end 1 (by decide), hi.end 2 (by decide), hi.end 3 (by decide), hi.end 4 (by decide), hi.end 5 (by decide), hi.end 6 (by decide), hi.end 7 (by decide), hi.end 8 (by decide), hi.end 9 (by decide), hi.end 10 (by decide), hi.end 11 (by decide), hi.end 12 (by decide), hi.end 13 (by decide), hi.end 14 (by decide), hi.end 15 (by decide)]
set_option maxHeartbeats 16000000 in
theorem rFingers_fn (l : List Int) (x : Int) (hR : rightM l = true) (hx : i64 x) : Go.Gar.Fn Tryd.prog 41 [.is l, .i .i64 x] (.agg [.i .i64 (fingT l x 0), .i .i64 (fingT l x 1), .i .i64 (fingT l x 2), .i .i64 (fingT l x 3), .i .i64 (fingT l x 4), .i .i64 (fingT l x 5), .i .i64 (fingT l x 6), .i .i64 (fingT l x 7), .i .i64 (fingT l x 8), .i .i64 (fingT l x 9), .i .i64 (fingT l x 10), .i .i64 (fingT l x 11), .i .i64 (fingT l x 12), .i .i64 (fingT l x 13), .i .i64 (fingT l x 14), .i .i64 (fingT l x 15)]) := by
  have hne : l ≠ [] := List.length_pos_iff.1 (rightM_t hR).1
  have hl12 := (rightM_t hR).2.1
  have hpl := (rightM_t hR).2.2.2
  refine Fn_of_W eok Tryd.func41 rfl rfl (Nat.le_of_ble_eq_true rfl) ?_
  have hF : ∀ k, fingT l x k = if ownT (stT x k) l = x then -1 else ownT (stT x k) l := fun k => rfl
  generalize fingT l x = F at *
  have nS := True.intro
  repeat' (first | ((with_reducible refine sg ?_); first | with_reducible rfl | ((with_reducible refine fitG ?_); first | kernel_rfl | rfl | (simp [fitT, fitF, nS]; done)) | with_reducible refine andT ?_ ?_ | with_reducible exact Nat.beq_refl _ | with_reducible exact fitsI_u8 _ | ((with_reducible refine decide_eq_true ?_); first | omega | (simp only [SZl, nS]; omega)) | decide | (simp [SZl, slc, allOneD, D.one, allOne, AV.one, nS]; done) | (simp [SZl, nS]; omega)) | ((with_reducible refine gWl ?_); first | (refine Wl_isMv rfl ?_; refine Xmv eok rfl rfl rfl rfl ?_) | refine Xq eok rfl rfl rfl rfl ?_ ?_ | refine Xn [0, 1, 4, 5, 6, 7, 10, 23] rfl ?_ | refine Xa eok rfl rfl rfl rfl rfl ?_ ?_ | refine Xw eok rfl rfl rfl rfl ?_ ?_) | refine W_seq ?_ | refine W_region ?_ | refine W_skip ?_ | refine W_ret ?_ | refine W_block ?_ | refine W_exit ?_ | refine W_cond_t rfl ?_ | refine W_cond_f rfl ?_ | (refine W_cond rfl (fun hc => ?_) (fun hc => ?_) <;> (try simp only [HCl] at hc) <;> (try (exfalso; omega))))
  refine W_loopI (FInv F) (fun x_ => ⟨[(0, .d (.is l)), (1, .d (.i .i64 x)), (4, .ptr 0 0 16), (5, .ptr 1 0 16), (6, .d (.i .i64 x_.1))], [.c [.d (.i .i64 0), .d (.i .i64 0), .d (.i .i64 0), .d (.i .i64 0), .d (.i .i64 0), .d (.i .i64 0), .d (.i .i64 0), .d (.i .i64 0), .d (.i .i64 0), .d (.i .i64 0), .d (.i .i64 0), .d (.i .i64 0), .d (.i .i64 0), .d (.i .i64 0), .d (.i .i64 0), .d (.i .i64 0)], .c [.d (.i .i64 (x_.2 0)), .d (.i .i64 (x_.2 1)), .d (.i .i64 (x_.2 2)), .d (.i .i64 (x_.2 3)), .d (.i .i64 (x_.2 4)), .d (.i .i64 (x_.2 5)), .d (.i .i64 (x_.2 6)), .d (.i .i64 (x_.2 7)), .d (.i .i64 (x_.2 8)), .d (.i .i64 (x_.2 9)), .d (.i .i64 (x_.2 10)), .d (.i .i64 (x_.2 11)), .d (.i .i64 (x_.2 12)), .d (.i .i64 (x_.2 13)), .d (.i .i64 (x_.2 14)), .d (.i .i64 (x_.2 15))]], 28⟩) (fun x_ => 16 - x_.1) (0, fun _ => 0) FInv0 ?_ (Nat.le_refl _) ?_
  · exact TSub.cut rfl (by repeat' (first | exact True.intro | refine And.intro (by (first | rfl | ((with_reducible_and_instances refine congrArg (fun z => some (AV.d (D.i _ z))) ?_); omega) | (refine congrArg (fun z => some (AV.d (D.i _ z))) (?_ : (_ : Int) = _); omega) | (refine congrArg some ?_; simp; done))) ?_)) (by repeat' (first | exact True.intro | refine And.intro (Or.inr rfl) ?_ | refine And.intro (Or.inl ⟨rfl, rfl⟩) ?_ | refine And.intro (Or.inr (by simp)) ?_)) (by first | rfl | (simp (decide := true) [heapOk, Blk.ok, AV.oks, AV.ok, hk]; done)) rfl
  rintro ⟨k, h⟩ hi
  have hk : k ≤ 16 := hi.1
  by_cases hk2 : k < 16
  · have e3 := hF k
    have c1 := rStart_fn x k hx
    have c2 := Owner_fn l (stT x k) (stT_pl x k) (fun y hy => i64_pl (hpl y hy)) (by omega)
    rw [decide_eq_true hne] at c2
    generalize stT x k = s at *
    generalize ownT s l = o at *
    by_cases e : o = x
    · have g := eq_true' e
      rw [if_pos e] at e3
      have hn := hi.next hk2 e3
      clear e3 hF
      rcases lt16 hk2 with rfl | rfl | rfl | rfl | rfl | rfl | rfl | rfl | rfl | rfl | rfl | rfl | rfl | rfl | rfl | rfl
      all_goals
        have nS := g
        repeat' (first | ((with_reducible refine sg ?_); first | with_reducible rfl | ((with_reducible refine fitG ?_); first | kernel_rfl | rfl | (simp [fitT, fitF, nS]; done)) | with_reducible refine andT ?_ ?_ | with_reducible exact Nat.beq_refl _ | with_reducible exact fitsI_u8 _ | ((with_reducible refine decide_eq_true ?_); first | omega | (simp only [SZl, nS]; omega)) | decide | (simp [SZl, slc, allOneD, D.one, allOne, AV.one, nS]; done) | (simp [SZl, nS]; omega)) | ((with_reducible refine gWl ?_); first | (refine Wl_isMv rfl ?_; refine Xmv eok rfl rfl rfl rfl ?_) | refine Xq eok rfl rfl rfl rfl ?_ ?_ | refine Xn [0, 1, 4, 5, 6, 7, 10, 23] rfl ?_ | refine XF (c1) rfl rfl rfl rfl ?_ | refine XF (c2) rfl rfl rfl rfl ?_ | refine Xa eok rfl rfl rfl rfl rfl ?_ ?_ | refine Xw eok rfl rfl rfl rfl ?_ ?_) | refine W_seq ?_ | refine W_region ?_ | refine W_skip ?_ | refine W_ret ?_ | refine W_block ?_ | refine W_exit ?_ | refine W_cond_t rfl ?_ | refine W_cond_f rfl ?_ | (refine W_cond rfl (fun hc => ?_) (fun hc => ?_) <;> (try simp only [HCl] at hc) <;> (try (exfalso; omega))))
        refine ⟨_, hn, (by dsimp only; omega), Nat.le_refl _, ?_⟩
        exact TSub.cut rfl (by repeat' (first | exact True.intro | refine And.intro (by (first | rfl | ((with_reducible_and_instances refine congrArg (fun z => some (AV.d (D.i _ z))) ?_); omega) | (refine congrArg (fun z => some (AV.d (D.i _ z))) (?_ : (_ : Int) = _); omega) | (refine congrArg some ?_; simp; done))) ?_)) (by repeat' (first | exact True.intro | refine And.intro (Or.inr rfl) ?_ | refine And.intro (Or.inl ⟨rfl, rfl⟩) ?_ | refine And.intro (Or.inr (by simp)) ?_)) (by first | rfl | (simp (decide := true) [heapOk, Blk.ok, AV.oks, AV.ok, hk]; done)) rfl
    · have g := eq_false' e
      rw [if_neg e] at e3
      have hn := hi.next hk2 e3
      clear e3 hF
      rcases lt16 hk2 with rfl | rfl | rfl | rfl | rfl | rfl | rfl | rfl | rfl | rfl | rfl | rfl | rfl | rfl | rfl | rfl
      all_goals
        have nS := g
        repeat' (first | ((with_reducible refine sg ?_); first | with_reducible rfl | ((with_reducible refine fitG ?_); first | kernel_rfl | rfl | (simp [fitT, fitF, nS]; done)) | with_reducible refine andT ?_ ?_ | with_reducible exact Nat.beq_refl _ | with_reducible exact fitsI_u8 _ | ((with_reducible refine decide_eq_true ?_); first | omega | (simp only [SZl, nS]; omega)) | decide | (simp [SZl, slc, allOneD, D.one, allOne, AV.one, nS]; done) | (simp [SZl, nS]; omega)) | ((with_reducible refine gWl ?_); first | (refine Wl_isMv rfl ?_; refine Xmv eok rfl rfl rfl rfl ?_) | refine Xq eok rfl rfl rfl rfl ?_ ?_ | refine Xn [0, 1, 4, 5, 6, 7, 10, 23] rfl ?_ | refine XF (c1) rfl rfl rfl rfl ?_ | refine XF (c2) rfl rfl rfl rfl ?_ | refine Xa eok rfl rfl rfl rfl rfl ?_ ?_ | refine Xw eok rfl rfl rfl rfl ?_ ?_) | refine W_seq ?_ | refine W_region ?_ | refine W_skip ?_ | refine W_ret ?_ | refine W_block ?_ | refine W_exit ?_ | refine W_cond_t rfl ?_ | refine W_cond_f rfl ?_ | (refine W_cond rfl (fun hc => ?_) (fun hc => ?_) <;> (try simp only [HCl] at hc) <;> (try (exfalso; omega))))
        refine ⟨_, hn, (by dsimp only; omega), Nat.le_refl _, ?_⟩
        exact TSub.cut rfl (by repeat' (first | exact True.intro | refine And.intro (by (first | rfl | ((with_reducible_and_instances refine congrArg (fun z => some (AV.d (D.i _ z))) ?_); omega) | (refine congrArg (fun z => some (AV.d (D.i _ z))) (?_ : (_ : Int) = _); omega) | (refine congrArg some ?_; simp; done))) ?_)) (by repeat' (first | exact True.intro | refine And.intro (Or.inr rfl) ?_ | refine And.intro (Or.inl ⟨rfl, rfl⟩) ?_ | refine And.intro (Or.inr (by simp)) ?_)) (by first | rfl | (simp (decide := true) [heapOk, Blk.ok, AV.oks, AV.ok, hk]; done)) rfl
  · have e16 : k = 16 := by omega
    subst e16
    clear hF
    have nS := True.intro
    repeat' (first | ((with_reducible refine sg ?_); first | with_reducible rfl | ((with_reducible refine fitG ?_); first | kernel_rfl | rfl | (simp [fitT, fitF, nS]; done)) | with_reducible refine andT ?_ ?_ | with_reducible exact Nat.beq_refl _ | with_reducible exact fitsI_u8 _ | ((with_reducible refine decide_eq_true ?_); first | omega | (simp only [SZl, nS]; omega)) | decide | (simp [SZl, slc, allOneD, D.one, allOne, AV.one, nS]; done) | (simp [SZl, nS]; omega)) | ((with_reducible refine gWl ?_); first | (refine Wl_isMv rfl ?_; refine Xmv eok rfl rfl rfl rfl ?_) | refine Xq eok rfl rfl rfl rfl ?_ ?_ | refine Xn [0, 1, 4, 5, 6, 7, 10, 23] rfl ?_ | refine Xa eok rfl rfl rfl rfl rfl ?_ ?_ | refine Xw eok rfl rfl rfl rfl ?_ ?_) | refine W_seq ?_ | refine W_region ?_ | refine W_skip ?_ | refine W_ret ?_ | refine W_block ?_ | refine W_exit ?_ | refine W_cond_t rfl ?_ | refine W_cond_f rfl ?_ | (refine W_cond rfl (fun hc => ?_) (fun hc => ?_) <;> (try simp only [HCl] at hc) <;> (try (exfalso; omega))))
    refine ⟨_, _, rfl, rfl, ?_⟩; simp [Frz_tup, Frz_ag, Frzs_cons, Frzs_nil, Frz_d, Frz_e0, Frz_sl, sln, isSl, slOk, hi.end 0 (by decide), hi.end 1 (by decide), hi.end 2 (by decide), hi.end 3 (by decide), hi.end 4 (by decide), hi.end 5 (by decide), hi.end 6 (by decide), hi.end 7 (by decide), hi.end 8 (by decide), hi.end 9 (by decide), hi.end 10 (by decide), hi.end 11 (by decide), hi.end 12 (by decide), hi.end 13 (by decide), hi.end 14 (by decide), hi.end 15 (by decide)]
end Go.Proofs.YtjiejhikjlhchaaDoor
