/- Written by a program (pre.py) from the source of the same name. -/
/- Views: anchors; the first one. -/
import Derived.Test.YtjiejhikjlhchaaDoorView8
set_option linter.unusedSimpArgs false
set_option linter.unusedVariables false
set_option linter.unnecessarySimpa false
namespace Go.Proofs.YtjiejhikjlhchaaDoor
open Go.Gar
set_option maxRecDepth 4000

def anS (id best b : Int) : Int := if b ≠ id ∧ (best < 0 ∨ farT id b < farT id best) then b else best
def anchT (id : Int) (l : List Int) : Int := l.foldl (anS id) (-1)
def owS (key out b : Int) : Int := if farT key b < farT key out then plT b else out
def ownT (key : Int) : List Int → Int
  | [] => 0
  | a :: l => (a :: l).foldl (owS key) (plT a)
theorem foldl_take {α : Type} (g : α → Int → α) (s : α) {l : List Int} {k : Nat} {p : Int} (hp : l[k]? = some p) : (l.take (k + 1)).foldl g s = g ((l.take k).foldl g s) p := by
  rw [take_succ_of hp, List.foldl_append]; rfl

set_option maxHeartbeats 4000000 in
theorem Owner_fn (l : List Int) (key : Int) (hk : i64 key) (hl : ∀ y ∈ l, i64 y) (hn : l.length ≤ 100000) : Go.Gar.Fn Tryd.prog 49 [.is l, .i .i64 key] (.tup [.i .i64 (ownT key l), .b (decide (l ≠ []))]) := by
  refine Fn_of_W eok Tryd.func49 rfl rfl (Nat.le_of_ble_eq_true rfl) ?_
  cases l with
  | nil =>
    have nS := True.intro
    repeat' (first | ((with_reducible refine sg ?_); first | with_reducible rfl | ((with_reducible refine fitG ?_); first | kernel_rfl | rfl | (simp [fitT, fitF, nS]; done)) | with_reducible refine andT ?_ ?_ | with_reducible exact Nat.beq_refl _ | with_reducible exact fitsI_u8 _ | ((with_reducible refine decide_eq_true ?_); first | omega | (simp only [SZl, nS]; omega)) | decide | (simp [SZl, slc, allOneD, D.one, allOne, AV.one, nS]; done) | (simp [SZl, nS]; omega)) | ((with_reducible refine gWl ?_); first | (refine Wl_isMv rfl ?_; refine Xmv eok rfl rfl rfl rfl ?_) | refine Xq eok rfl rfl rfl rfl ?_ ?_ | refine Xn [0, 1, 4, 5, 6, 7, 10, 18, 30] rfl ?_) | refine W_seq ?_ | refine W_region ?_ | refine W_skip ?_ | refine W_ret ?_ | refine W_block ?_ | refine W_exit ?_ | refine W_cond_t rfl ?_ | refine W_cond_f rfl ?_ | (refine W_cond rfl (fun hc => ?_) (fun hc => ?_) <;> (try simp only [HCl] at hc) <;> (try (exfalso; omega))))
    refine ⟨_, _, rfl, rfl, ?_⟩; simp [Frz_tup, Frz_ag, Frzs_cons, Frzs_nil, Frz_d, Frz_e0, Frz_sl, sln, isSl, slOk, ownT]
  | cons a l =>
  have fa : decide (((a :: l).length : Int) = 0) = false := decide_eq_false (by simp only [List.length_cons]; omega)
  have gA : (a :: l).getD 0 0 = a := rfl
  have ca := rPlace_fn a (hl a (List.mem_cons_self ..))
  have hO : ownT key (a :: l) = (a :: l).foldl (owS key) (plT a) := rfl
  have hd : decide ((a :: l) ≠ []) = true := rfl
  rw [hO, hd]
  have hla : (a :: l).length = l.length + 1 := rfl
  generalize hL : a :: l = m at *
  have h0 : (0 : Int) < m.length := by omega
  have nS := And.intro fa gA
  repeat' (first | ((with_reducible refine sg ?_); first | with_reducible rfl | ((with_reducible refine fitG ?_); first | kernel_rfl | rfl | (simp [fitT, fitF, nS]; done)) | with_reducible refine andT ?_ ?_ | with_reducible exact Nat.beq_refl _ | with_reducible exact fitsI_u8 _ | ((with_reducible refine decide_eq_true ?_); first | omega | (simp only [SZl, nS]; omega)) | decide | (simp [SZl, slc, allOneD, D.one, allOne, AV.one, nS]; done) | (simp [SZl, nS]; omega)) | ((with_reducible refine gWl ?_); first | (refine Wl_isMv rfl ?_; refine Xmv eok rfl rfl rfl rfl ?_) | refine Xq eok rfl rfl rfl rfl ?_ ?_ | refine Xn [0, 1, 4, 5, 6, 7, 10, 18, 30] rfl ?_ | refine XF (ca) rfl rfl rfl rfl ?_) | refine W_seq ?_ | refine W_region ?_ | refine W_skip ?_ | refine W_ret ?_ | refine W_block ?_ | refine W_exit ?_ | refine W_cond_t rfl ?_ | refine W_cond_f rfl ?_ | (refine W_cond rfl (fun hc => ?_) (fun hc => ?_) <;> (try simp only [HCl] at hc) <;> (try (exfalso; omega))))
  refine W_loopI (fun k => k ≤ m.length ∧ i64 ((m.take k).foldl (owS key) (plT a))) (fun k : Nat => ⟨[(0, .d (.is m)), (1, .d (.i .i64 key)), (6, .d (.i .i64 ((m.take k).foldl (owS key) (plT a)))), (7, .d (.i .i64 k))], [], 37⟩) (fun k => m.length - k) 0 ⟨Nat.zero_le _, by have := plT_lt a; unfold i64; simp only [List.take_zero, List.foldl_nil]; omega⟩ ?_ (Nat.le_refl _) ?_
  · exact TSub.cut rfl (by repeat' (first | exact True.intro | refine And.intro (by (first | rfl | ((with_reducible_and_instances refine congrArg (fun z => some (AV.d (D.i _ z))) ?_); omega) | (refine congrArg (fun z => some (AV.d (D.i _ z))) (?_ : (_ : Int) = _); omega) | (refine congrArg some ?_; simp; done))) ?_)) (by repeat' (first | exact True.intro | refine And.intro (Or.inr rfl) ?_ | refine And.intro (Or.inl ⟨rfl, rfl⟩) ?_ | refine And.intro (Or.inr (by simp)) ?_)) (by first | rfl | (simp (decide := true) [heapOk, Blk.ok, AV.oks, AV.ok, hk]; done)) rfl
  rintro k ⟨hk', hi⟩
  by_cases hkl : k < m.length
  · obtain ⟨p, hp⟩ := get_of hkl
    have gp := getD_of hp
    have hs := foldl_take (owS key) (plT a) hp
    have hip := hl p (List.mem_of_getElem? hp)
    generalize hB : (m.take k).foldl (owS key) (plT a) = out at *
    have c1 := rFar_fn key p hk hip
    have c2 := rFar_fn key out hk hi
    have c3 := rPlace_fn p hip
    by_cases h3 : farT key p < farT key out
    · have f3 : decide (farT key p < farT key out) = true := decide_eq_true h3
      have hs' : (m.take (k + 1)).foldl (owS key) (plT a) = plT p := by rw [hs]; simp [owS, h3]
      have nS := And.intro gp f3
      repeat' (first | ((with_reducible refine sg ?_); first | with_reducible rfl | ((with_reducible refine fitG ?_); first | kernel_rfl | rfl | (simp [fitT, fitF, nS]; done)) | with_reducible refine andT ?_ ?_ | with_reducible exact Nat.beq_refl _ | with_reducible exact fitsI_u8 _ | ((with_reducible refine decide_eq_true ?_); first | omega | (simp only [SZl, nS]; omega)) | decide | (simp [SZl, slc, allOneD, D.one, allOne, AV.one, nS]; done) | (simp [SZl, nS]; omega)) | ((with_reducible refine gWl ?_); first | (refine Wl_isMv rfl ?_; refine Xmv eok rfl rfl rfl rfl ?_) | refine Xq eok rfl rfl rfl rfl ?_ ?_ | refine Xn [0, 1, 4, 5, 6, 7, 10, 18, 30] rfl ?_ | refine XF (c1) rfl rfl rfl rfl ?_ | refine XF (c2) rfl rfl rfl rfl ?_ | refine XF (c3) rfl rfl rfl rfl ?_) | refine W_seq ?_ | refine W_region ?_ | refine W_skip ?_ | refine W_ret ?_ | refine W_block ?_ | refine W_exit ?_ | refine W_cond_t rfl ?_ | refine W_cond_f rfl ?_ | (refine W_cond rfl (fun hc => ?_) (fun hc => ?_) <;> (try simp only [HCl] at hc) <;> (try (exfalso; omega))))
      refine ⟨k + 1, ⟨hkl, by rw [hs']; have := plT_lt p; unfold i64; omega⟩, by omega, Nat.le_refl _, ?_⟩
      exact TSub.cut rfl (by repeat' (first | exact True.intro | refine And.intro (by (first | rfl | ((with_reducible_and_instances refine congrArg (fun z => some (AV.d (D.i _ z))) ?_); omega) | (refine congrArg (fun z => some (AV.d (D.i _ z))) (?_ : (_ : Int) = _); omega) | (refine congrArg some ?_; simp only [hs']; done) | (refine congrArg some ?_; simp [hs']; done))) ?_)) (by repeat' (first | exact True.intro | refine And.intro (Or.inr rfl) ?_ | refine And.intro (Or.inl ⟨rfl, rfl⟩) ?_ | refine And.intro (Or.inr (by simp only [hs'])) ?_ | refine And.intro (Or.inr (by simp [hs'])) ?_)) (by first | rfl | (simp (decide := true) [heapOk, Blk.ok, AV.oks, AV.ok, hk]; done)) rfl
    · have f3 : decide (farT key p < farT key out) = false := decide_eq_false h3
      have hs' : (m.take (k + 1)).foldl (owS key) (plT a) = out := by rw [hs]; simp [owS, h3]
      have nS := And.intro gp f3
      repeat' (first | ((with_reducible refine sg ?_); first | with_reducible rfl | ((with_reducible refine fitG ?_); first | kernel_rfl | rfl | (simp [fitT, fitF, nS]; done)) | with_reducible refine andT ?_ ?_ | with_reducible exact Nat.beq_refl _ | with_reducible exact fitsI_u8 _ | ((with_reducible refine decide_eq_true ?_); first | omega | (simp only [SZl, nS]; omega)) | decide | (simp [SZl, slc, allOneD, D.one, allOne, AV.one, nS]; done) | (simp [SZl, nS]; omega)) | ((with_reducible refine gWl ?_); first | (refine Wl_isMv rfl ?_; refine Xmv eok rfl rfl rfl rfl ?_) | refine Xq eok rfl rfl rfl rfl ?_ ?_ | refine Xn [0, 1, 4, 5, 6, 7, 10, 18, 30] rfl ?_ | refine XF (c1) rfl rfl rfl rfl ?_ | refine XF (c2) rfl rfl rfl rfl ?_) | refine W_seq ?_ | refine W_region ?_ | refine W_skip ?_ | refine W_ret ?_ | refine W_block ?_ | refine W_exit ?_ | refine W_cond_t rfl ?_ | refine W_cond_f rfl ?_ | (refine W_cond rfl (fun hc => ?_) (fun hc => ?_) <;> (try simp only [HCl] at hc) <;> (try (exfalso; omega))))
      refine ⟨k + 1, ⟨hkl, by rw [hs']; exact hi⟩, by omega, Nat.le_refl _, ?_⟩
      exact TSub.cut rfl (by repeat' (first | exact True.intro | refine And.intro (by (first | rfl | ((with_reducible_and_instances refine congrArg (fun z => some (AV.d (D.i _ z))) ?_); omega) | (refine congrArg (fun z => some (AV.d (D.i _ z))) (?_ : (_ : Int) = _); omega) | (refine congrArg some ?_; simp only [hs']; done) | (refine congrArg some ?_; simp [hs']; done))) ?_)) (by repeat' (first | exact True.intro | refine And.intro (Or.inr rfl) ?_ | refine And.intro (Or.inl ⟨rfl, rfl⟩) ?_ | refine And.intro (Or.inr (by simp only [hs'])) ?_ | refine And.intro (Or.inr (by simp [hs'])) ?_)) (by first | rfl | (simp (decide := true) [heapOk, Blk.ok, AV.oks, AV.ok, hk]; done)) rfl
  · have e : k = m.length := by omega
    subst e
    rw [List.take_length]
    have nS := True.intro
    repeat' (first | ((with_reducible refine sg ?_); first | with_reducible rfl | ((with_reducible refine fitG ?_); first | kernel_rfl | rfl | (simp [fitT, fitF, nS]; done)) | with_reducible refine andT ?_ ?_ | with_reducible exact Nat.beq_refl _ | with_reducible exact fitsI_u8 _ | ((with_reducible refine decide_eq_true ?_); first | omega | (simp only [SZl, nS]; omega)) | decide | (simp [SZl, slc, allOneD, D.one, allOne, AV.one, nS]; done) | (simp [SZl, nS]; omega)) | ((with_reducible refine gWl ?_); first | (refine Wl_isMv rfl ?_; refine Xmv eok rfl rfl rfl rfl ?_) | refine Xq eok rfl rfl rfl rfl ?_ ?_ | refine Xn [0, 1, 4, 5, 6, 7, 10, 18, 30] rfl ?_) | refine W_seq ?_ | refine W_region ?_ | refine W_skip ?_ | refine W_ret ?_ | refine W_block ?_ | refine W_exit ?_ | refine W_cond_t rfl ?_ | refine W_cond_f rfl ?_ | (refine W_cond rfl (fun hc => ?_) (fun hc => ?_) <;> (try simp only [HCl] at hc) <;> (try (exfalso; omega))))
    refine ⟨_, _, rfl, rfl, ?_⟩; simp [Frz_tup, Frz_ag, Frzs_cons, Frzs_nil, Frz_d, Frz_e0, Frz_sl, sln, isSl, slOk]
end Go.Proofs.YtjiejhikjlhchaaDoor
