/- Written by a program (pre.py) from the source of the same name. -/
/- Views: the law that all is as the document tells. -/
import Derived.Test.YtflikcmbbljgeaaViewL
import Derived.Test.YtflikcmbbljgeaaView9
import Derived.Test.YtflikcmbbljgeaaViewK
set_option linter.unusedSimpArgs false
set_option linter.unusedVariables false
set_option linter.unnecessarySimpa false
namespace Go.Proofs.Ytflikcmbbljgeaa
open Go.Gar
set_option maxRecDepth 4000

set_option maxHeartbeats 16000000 in
theorem viewTells_fn (v o : View) (id d : Int) (base l : List Int) (hv : i64 v.id) (hvl : ∀ y ∈ v.list, i64 y) (hid : i64 id) (hl : ∀ y ∈ l, i64 y) :
    Go.Gar.Fn Try.prog 8 [v.d, o.d, .i .i64 id, .i .i64 d, .is base, .is l] (.b true) := by
  have cG := vGreat_fn v
  have cH := vGreat_fn o
  refine Fn_of_W eok Try.func8 rfl rfl (Nat.le_of_ble_eq_true rfl) ?_
  by_cases h1 : v.base.length > 20 ∨ v.list.length > 20
  · rw [decide_eq_true h1] at cG
    obtain ⟨vi, vb, vl, vp, vf⟩ := v
    obtain ⟨oi, ob, ol, op, of⟩ := o
    have nS := True.intro
    repeat' (first | ((with_reducible refine sg ?_); first | with_reducible rfl | ((with_reducible refine fitG ?_); first | kernel_rfl | rfl | (simp [fitT, fitF, nS]; done)) | with_reducible refine andT ?_ ?_ | with_reducible exact Nat.beq_refl _ | with_reducible exact fitsI_u8 _ | ((with_reducible refine decide_eq_true ?_); first | omega | (simp only [SZl, nS]; omega)) | decide | (simp [SZl, slc, allOneD, D.one, allOne, AV.one, nS]; done) | (simp [SZl, nS]; omega)) | ((with_reducible refine gWl ?_); first | (refine Wl_isMv rfl ?_; refine Xmv eok rfl rfl rfl rfl ?_) | refine Xq eok rfl rfl rfl rfl ?_ ?_ | refine Xn [0, 1, 2, 3, 4, 5, 6, 7, 12, 13, 14, 15, 16, 32, 83] rfl ?_ | refine XF (cG) rfl rfl rfl rfl ?_ | refine XF (vwakes_fn) rfl rfl rfl rfl ?_ | refine Xa eok rfl rfl rfl rfl rfl ?_ ?_ | refine Xw eok rfl rfl rfl rfl ?_ ?_ | refine Xs rfl rfl rfl ?_ | (refine Xsplit rfl rfl (fun hc => ?_) (fun hc => ?_) <;> (fail_if_success (with_reducible first | exact tF hc | exact fT hc)) <;> (try simp only [HCl] at hc) <;> (try (exfalso; omega)))) | ((with_reducible refine gWd ?_); first | (refine Wd_isMv rfl ?_; refine Ymv eok rfl rfl (fun _ => rfl) rfl rfl ?_) | refine Yp eok rfl rfl (fun _ => rfl) rfl rfl ?_ ?_ | refine Yq rfl rfl rfl rfl rfl ?_ ?_ | refine Ys rfl rfl rfl rfl ?_ | refine YF (cG) rfl rfl rfl rfl rfl ?_ | refine YF (vwakes_fn) rfl rfl rfl rfl rfl ?_ | refine Ya eok rfl rfl rfl rfl rfl rfl ?_ ?_ | refine Yw eok rfl rfl rfl rfl rfl ?_ ?_ | refine Yn [0, 1, 2, 3, 4, 5, 6, 7, 12, 13, 14, 15, 16, 32, 83] [] mixed eok (by kernel_rfl) True.intro rfl ?_ | (refine Ysplit rfl rfl (fun hc => ?_) (fun hc => ?_) <;> (fail_if_success (with_reducible first | exact tF hc | exact fT hc)) <;> (try simp only [HCl] at hc) <;> (try (exfalso; omega)))) | refine W_seq ?_ | refine W_region ?_ | refine W_any T.get ?_ | refine W_skip ?_ | refine W_ret ?_ | refine W_block ?_ | refine W_exit ?_ | refine W_cond_t rfl ?_ | refine W_cond_f rfl ?_ | (refine W_cond rfl (fun hc => ?_) (fun hc => ?_) <;> (try simp only [HCl] at hc) <;> (try (exfalso; omega))))
    refine ⟨_, _, rfl, rfl, ?_⟩; simp [Frz_tup, Frz_ag, Frzs_cons, Frzs_nil, Frz_d, Frz_e0, Frz_sl, sln, isSl, slOk]
  rw [decide_eq_false h1] at cG
  by_cases h2 : o.base.length > 20 ∨ o.list.length > 20
  · rw [decide_eq_true h2] at cH
    obtain ⟨vi, vb, vl, vp, vf⟩ := v
    obtain ⟨oi, ob, ol, op, of⟩ := o
    have nS := True.intro
    repeat' (first | ((with_reducible refine sg ?_); first | with_reducible rfl | ((with_reducible refine fitG ?_); first | kernel_rfl | rfl | (simp [fitT, fitF, nS]; done)) | with_reducible refine andT ?_ ?_ | with_reducible exact Nat.beq_refl _ | with_reducible exact fitsI_u8 _ | ((with_reducible refine decide_eq_true ?_); first | omega | (simp only [SZl, nS]; omega)) | decide | (simp [SZl, slc, allOneD, D.one, allOne, AV.one, nS]; done) | (simp [SZl, nS]; omega)) | ((with_reducible refine gWl ?_); first | (refine Wl_isMv rfl ?_; refine Xmv eok rfl rfl rfl rfl ?_) | refine Xq eok rfl rfl rfl rfl ?_ ?_ | refine Xn [0, 1, 2, 3, 4, 5, 6, 7, 12, 13, 14, 15, 16, 32, 83] rfl ?_ | refine XF (cG) rfl rfl rfl rfl ?_ | refine XF (cH) rfl rfl rfl rfl ?_ | refine XF (vwakes_fn) rfl rfl rfl rfl ?_ | refine Xa eok rfl rfl rfl rfl rfl ?_ ?_ | refine Xw eok rfl rfl rfl rfl ?_ ?_ | refine Xs rfl rfl rfl ?_ | (refine Xsplit rfl rfl (fun hc => ?_) (fun hc => ?_) <;> (fail_if_success (with_reducible first | exact tF hc | exact fT hc)) <;> (try simp only [HCl] at hc) <;> (try (exfalso; omega)))) | ((with_reducible refine gWd ?_); first | (refine Wd_isMv rfl ?_; refine Ymv eok rfl rfl (fun _ => rfl) rfl rfl ?_) | refine Yp eok rfl rfl (fun _ => rfl) rfl rfl ?_ ?_ | refine Yq rfl rfl rfl rfl rfl ?_ ?_ | refine Ys rfl rfl rfl rfl ?_ | refine YF (cG) rfl rfl rfl rfl rfl ?_ | refine YF (cH) rfl rfl rfl rfl rfl ?_ | refine YF (vwakes_fn) rfl rfl rfl rfl rfl ?_ | refine Ya eok rfl rfl rfl rfl rfl rfl ?_ ?_ | refine Yw eok rfl rfl rfl rfl rfl ?_ ?_ | refine Yn [0, 1, 2, 3, 4, 5, 6, 7, 12, 13, 14, 15, 16, 32, 83] [] mixed eok (by kernel_rfl) True.intro rfl ?_ | (refine Ysplit rfl rfl (fun hc => ?_) (fun hc => ?_) <;> (fail_if_success (with_reducible first | exact tF hc | exact fT hc)) <;> (try simp only [HCl] at hc) <;> (try (exfalso; omega)))) | refine W_seq ?_ | refine W_region ?_ | refine W_any T.get ?_ | refine W_skip ?_ | refine W_ret ?_ | refine W_block ?_ | refine W_exit ?_ | refine W_cond_t rfl ?_ | refine W_cond_f rfl ?_ | (refine W_cond rfl (fun hc => ?_) (fun hc => ?_) <;> (try simp only [HCl] at hc) <;> (try (exfalso; omega))))
    refine ⟨_, _, rfl, rfl, ?_⟩; simp [Frz_tup, Frz_ag, Frzs_cons, Frzs_nil, Frz_d, Frz_e0, Frz_sl, sln, isSl, slOk]
  rw [decide_eq_false h2] at cH
  by_cases h3 : base.length > 20
  · have f3 : decide ((base.length : Int) > 20) = true := decide_eq_true (by omega)
    obtain ⟨vi, vb, vl, vp, vf⟩ := v
    obtain ⟨oi, ob, ol, op, of⟩ := o
    have nS := f3
    repeat' (first | ((with_reducible refine sg ?_); first | with_reducible rfl | ((with_reducible refine fitG ?_); first | kernel_rfl | rfl | (simp [fitT, fitF, nS]; done)) | with_reducible refine andT ?_ ?_ | with_reducible exact Nat.beq_refl _ | with_reducible exact fitsI_u8 _ | ((with_reducible refine decide_eq_true ?_); first | omega | (simp only [SZl, nS]; omega)) | decide | (simp [SZl, slc, allOneD, D.one, allOne, AV.one, nS]; done) | (simp [SZl, nS]; omega)) | ((with_reducible refine gWl ?_); first | (refine Wl_isMv rfl ?_; refine Xmv eok rfl rfl rfl rfl ?_) | refine Xq eok rfl rfl rfl rfl ?_ ?_ | refine Xn [0, 1, 2, 3, 4, 5, 6, 7, 12, 13, 14, 15, 16, 32, 83] rfl ?_ | refine XF (cG) rfl rfl rfl rfl ?_ | refine XF (cH) rfl rfl rfl rfl ?_ | refine XF (vwakes_fn) rfl rfl rfl rfl ?_ | refine Xa eok rfl rfl rfl rfl rfl ?_ ?_ | refine Xw eok rfl rfl rfl rfl ?_ ?_ | refine Xs rfl rfl rfl ?_ | (refine Xsplit rfl rfl (fun hc => ?_) (fun hc => ?_) <;> (fail_if_success (with_reducible first | exact tF hc | exact fT hc)) <;> (try simp only [HCl] at hc) <;> (try (exfalso; omega)))) | ((with_reducible refine gWd ?_); first | (refine Wd_isMv rfl ?_; refine Ymv eok rfl rfl (fun _ => rfl) rfl rfl ?_) | refine Yp eok rfl rfl (fun _ => rfl) rfl rfl ?_ ?_ | refine Yq rfl rfl rfl rfl rfl ?_ ?_ | refine Ys rfl rfl rfl rfl ?_ | refine YF (cG) rfl rfl rfl rfl rfl ?_ | refine YF (cH) rfl rfl rfl rfl rfl ?_ | refine YF (vwakes_fn) rfl rfl rfl rfl rfl ?_ | refine Ya eok rfl rfl rfl rfl rfl rfl ?_ ?_ | refine Yw eok rfl rfl rfl rfl rfl ?_ ?_ | refine Yn [0, 1, 2, 3, 4, 5, 6, 7, 12, 13, 14, 15, 16, 32, 83] [] mixed eok (by kernel_rfl) True.intro rfl ?_ | (refine Ysplit rfl rfl (fun hc => ?_) (fun hc => ?_) <;> (fail_if_success (with_reducible first | exact tF hc | exact fT hc)) <;> (try simp only [HCl] at hc) <;> (try (exfalso; omega)))) | refine W_seq ?_ | refine W_region ?_ | refine W_any T.get ?_ | refine W_skip ?_ | refine W_ret ?_ | refine W_block ?_ | refine W_exit ?_ | refine W_cond_t rfl ?_ | refine W_cond_f rfl ?_ | (refine W_cond rfl (fun hc => ?_) (fun hc => ?_) <;> (try simp only [HCl] at hc) <;> (try (exfalso; omega))))
    refine ⟨_, _, rfl, rfl, ?_⟩; simp [Frz_tup, Frz_ag, Frzs_cons, Frzs_nil, Frz_d, Frz_e0, Frz_sl, sln, isSl, slOk]
  have f3 : decide ((base.length : Int) > 20) = false := decide_eq_false (by omega)
  by_cases h4 : l.length > 20
  · have f4 : decide ((l.length : Int) > 20) = true := decide_eq_true (by omega)
    obtain ⟨vi, vb, vl, vp, vf⟩ := v
    obtain ⟨oi, ob, ol, op, of⟩ := o
    have nS := And.intro f3 f4
    repeat' (first | ((with_reducible refine sg ?_); first | with_reducible rfl | ((with_reducible refine fitG ?_); first | kernel_rfl | rfl | (simp [fitT, fitF, nS]; done)) | with_reducible refine andT ?_ ?_ | with_reducible exact Nat.beq_refl _ | with_reducible exact fitsI_u8 _ | ((with_reducible refine decide_eq_true ?_); first | omega | (simp only [SZl, nS]; omega)) | decide | (simp [SZl, slc, allOneD, D.one, allOne, AV.one, nS]; done) | (simp [SZl, nS]; omega)) | ((with_reducible refine gWl ?_); first | (refine Wl_isMv rfl ?_; refine Xmv eok rfl rfl rfl rfl ?_) | refine Xq eok rfl rfl rfl rfl ?_ ?_ | refine Xn [0, 1, 2, 3, 4, 5, 6, 7, 12, 13, 14, 15, 16, 32, 83] rfl ?_ | refine XF (cG) rfl rfl rfl rfl ?_ | refine XF (cH) rfl rfl rfl rfl ?_ | refine XF (vwakes_fn) rfl rfl rfl rfl ?_ | refine Xa eok rfl rfl rfl rfl rfl ?_ ?_ | refine Xw eok rfl rfl rfl rfl ?_ ?_ | refine Xs rfl rfl rfl ?_ | (refine Xsplit rfl rfl (fun hc => ?_) (fun hc => ?_) <;> (fail_if_success (with_reducible first | exact tF hc | exact fT hc)) <;> (try simp only [HCl] at hc) <;> (try (exfalso; omega)))) | ((with_reducible refine gWd ?_); first | (refine Wd_isMv rfl ?_; refine Ymv eok rfl rfl (fun _ => rfl) rfl rfl ?_) | refine Yp eok rfl rfl (fun _ => rfl) rfl rfl ?_ ?_ | refine Yq rfl rfl rfl rfl rfl ?_ ?_ | refine Ys rfl rfl rfl rfl ?_ | refine YF (cG) rfl rfl rfl rfl rfl ?_ | refine YF (cH) rfl rfl rfl rfl rfl ?_ | refine YF (vwakes_fn) rfl rfl rfl rfl rfl ?_ | refine Ya eok rfl rfl rfl rfl rfl rfl ?_ ?_ | refine Yw eok rfl rfl rfl rfl rfl ?_ ?_ | refine Yn [0, 1, 2, 3, 4, 5, 6, 7, 12, 13, 14, 15, 16, 32, 83] [] mixed eok (by kernel_rfl) True.intro rfl ?_ | (refine Ysplit rfl rfl (fun hc => ?_) (fun hc => ?_) <;> (fail_if_success (with_reducible first | exact tF hc | exact fT hc)) <;> (try simp only [HCl] at hc) <;> (try (exfalso; omega)))) | refine W_seq ?_ | refine W_region ?_ | refine W_any T.get ?_ | refine W_skip ?_ | refine W_ret ?_ | refine W_block ?_ | refine W_exit ?_ | refine W_cond_t rfl ?_ | refine W_cond_f rfl ?_ | (refine W_cond rfl (fun hc => ?_) (fun hc => ?_) <;> (try simp only [HCl] at hc) <;> (try (exfalso; omega))))
    refine ⟨_, _, rfl, rfl, ?_⟩; simp [Frz_tup, Frz_ag, Frzs_cons, Frzs_nil, Frz_d, Frz_e0, Frz_sl, sln, isSl, slOk]
  have f4 : decide ((l.length : Int) > 20) = false := decide_eq_false (by omega)
  have b1 : v.base.length ≤ 1000 := by omega
  have b2 : v.list.length ≤ 1000 := by omega
  have b3 : o.base.length ≤ 1000 := by omega
  have b4 : o.list.length ≤ 1000 := by omega
  have n1 := newT_len id base
  have n2 := deadT_len v d
  have n3 := listedT_len v l
  have c1 := New_fn id base (by omega)
  have c2 := rNew_fn id base hid (by omega)
  have c3 := rSameV_fn (newT id base).1 (newT id base).1 (by omega) (by omega)
  rw [sameV_self] at c3
  have c4 := vRight_fn v b1 b2
  have c5 := rvRight_fn v hv hvl b1 b2
  have c6 := Anchor_fn v b1 b2
  have c7 := rAnchor_fn v hv hvl b1 b2
  have c8 := vFirst_fn v b1 b2
  have c9 := rvFirst_fn v hv hvl b1 b2
  have d1 := Known_fn v b1 b2
  have d2 := rKnown_fn v hv hvl b1 b2
  have d3 := ints_fn (kwT v) (kwT v) (kwT_len v b1 b2)
  rw [decide_eq_true rfl] at d3
  have d4 := Dead_fn v d b1 b2
  have d5 := rDead_fn v d hv hvl b1 b2
  have d6 := rSameV_fn (deadT v d) (deadT v d) (by omega) (by omega)
  rw [sameV_self] at d6
  have d7 := Listed_fn v l b1 b2 (by omega)
  have d8 := rListed_fn v l hv hvl hl b1 b2 (by omega)
  have d9 := rSameV_fn (listedT v l) (listedT v l) (by omega) (by omega)
  rw [sameV_self] at d9
  have e1 := SameV_fn v o (by omega) (by omega)
  have e2 := rSameV_fn v o (by omega) (by omega)
  have e3 := vOwn_fn v (by omega) (by omega)
  have e4 := rSameV_fn v v (by omega) (by omega)
  rw [sameV_self] at e4
  clear n1 n2 n3 h1 h2 b1 b2 b3 b4 hv hvl
  generalize newT id base = nT at *
  generalize deadT v d = dT at *
  generalize listedT v l = lT at *
  generalize kwT v = kT at *
  generalize anT v = aT at *
  generalize fiT v = fT at *
  generalize sameV v o = sT at *
  generalize rightV v = rT at *
  have g1 := ne_false (rfl : aT = aT)
  have g2 := ne_false (rfl : fT = fT)
  obtain ⟨⟨ni, nb, nl, np, nf⟩, ne⟩ := nT
  have g3 := ne_false (rfl : ne = ne)
  obtain ⟨di, db, dl, dp, df⟩ := dT
  obtain ⟨li, lb, ll, lp, lf⟩ := lT
  obtain ⟨vi, vb, vl, vp, vf⟩ := v
  obtain ⟨oi, ob, ol, op, of⟩ := o
  cases sT <;> cases rT
  all_goals
    have nS := And.intro f3 (And.intro f4 (And.intro g1 (And.intro g2 g3)))
    repeat' (first | ((with_reducible refine sg ?_); first | with_reducible rfl | ((with_reducible refine fitG ?_); first | kernel_rfl | rfl | (simp [fitT, fitF, nS]; done)) | with_reducible refine andT ?_ ?_ | with_reducible exact Nat.beq_refl _ | with_reducible exact fitsI_u8 _ | ((with_reducible refine decide_eq_true ?_); first | omega | (simp only [SZl, nS]; omega)) | decide | (simp [SZl, slc, allOneD, D.one, allOne, AV.one, nS]; done) | (simp [SZl, nS]; omega)) | ((with_reducible refine gWl ?_); first | (refine Wl_isMv rfl ?_; refine Xmv eok rfl rfl rfl rfl ?_) | refine Xq eok rfl rfl rfl rfl ?_ ?_ | refine Xn [0, 1, 2, 3, 4, 5, 6, 7, 12, 13, 14, 15, 16, 32, 83] rfl ?_ | refine XF (cG) rfl rfl rfl rfl ?_ | refine XF (cH) rfl rfl rfl rfl ?_ | refine XF (vwakes_fn) rfl rfl rfl rfl ?_ | refine XF (c1) rfl rfl rfl rfl ?_ | refine XF (c2) rfl rfl rfl rfl ?_ | refine XF (c3) rfl rfl rfl rfl ?_ | refine XF (c4) rfl rfl rfl rfl ?_ | refine XF (c5) rfl rfl rfl rfl ?_ | refine XF (c6) rfl rfl rfl rfl ?_ | refine XF (c7) rfl rfl rfl rfl ?_ | refine XF (c8) rfl rfl rfl rfl ?_ | refine XF (c9) rfl rfl rfl rfl ?_ | refine XF (d1) rfl rfl rfl rfl ?_ | refine XF (d2) rfl rfl rfl rfl ?_ | refine XF (d3) rfl rfl rfl rfl ?_ | refine XF (d4) rfl rfl rfl rfl ?_ | refine XF (d5) rfl rfl rfl rfl ?_ | refine XF (d6) rfl rfl rfl rfl ?_ | refine XF (d7) rfl rfl rfl rfl ?_ | refine XF (d8) rfl rfl rfl rfl ?_ | refine XF (d9) rfl rfl rfl rfl ?_ | refine XF (e1) rfl rfl rfl rfl ?_ | refine XF (e2) rfl rfl rfl rfl ?_ | refine XF (e3) rfl rfl rfl rfl ?_ | refine XF (e4) rfl rfl rfl rfl ?_ | refine Xa eok rfl rfl rfl rfl rfl ?_ ?_ | refine Xw eok rfl rfl rfl rfl ?_ ?_ | refine Xs rfl rfl rfl ?_ | (refine Xsplit rfl rfl (fun hc => ?_) (fun hc => ?_) <;> (fail_if_success (with_reducible first | exact tF hc | exact fT hc)) <;> (try simp only [HCl] at hc) <;> (try (exfalso; omega)))) | ((with_reducible refine gWd ?_); first | (refine Wd_isMv rfl ?_; refine Ymv eok rfl rfl (fun _ => rfl) rfl rfl ?_) | refine Yp eok rfl rfl (fun _ => rfl) rfl rfl ?_ ?_ | refine Yq rfl rfl rfl rfl rfl ?_ ?_ | refine Ys rfl rfl rfl rfl ?_ | refine YF (cG) rfl rfl rfl rfl rfl ?_ | refine YF (cH) rfl rfl rfl rfl rfl ?_ | refine YF (vwakes_fn) rfl rfl rfl rfl rfl ?_ | refine YF (c1) rfl rfl rfl rfl rfl ?_ | refine YF (c2) rfl rfl rfl rfl rfl ?_ | refine YF (c3) rfl rfl rfl rfl rfl ?_ | refine YF (c4) rfl rfl rfl rfl rfl ?_ | refine YF (c5) rfl rfl rfl rfl rfl ?_ | refine YF (c6) rfl rfl rfl rfl rfl ?_ | refine YF (c7) rfl rfl rfl rfl rfl ?_ | refine YF (c8) rfl rfl rfl rfl rfl ?_ | refine YF (c9) rfl rfl rfl rfl rfl ?_ | refine YF (d1) rfl rfl rfl rfl rfl ?_ | refine YF (d2) rfl rfl rfl rfl rfl ?_ | refine YF (d3) rfl rfl rfl rfl rfl ?_ | refine YF (d4) rfl rfl rfl rfl rfl ?_ | refine YF (d5) rfl rfl rfl rfl rfl ?_ | refine YF (d6) rfl rfl rfl rfl rfl ?_ | refine YF (d7) rfl rfl rfl rfl rfl ?_ | refine YF (d8) rfl rfl rfl rfl rfl ?_ | refine YF (d9) rfl rfl rfl rfl rfl ?_ | refine YF (e1) rfl rfl rfl rfl rfl ?_ | refine YF (e2) rfl rfl rfl rfl rfl ?_ | refine YF (e3) rfl rfl rfl rfl rfl ?_ | refine YF (e4) rfl rfl rfl rfl rfl ?_ | refine Ya eok rfl rfl rfl rfl rfl rfl ?_ ?_ | refine Yw eok rfl rfl rfl rfl rfl ?_ ?_ | refine Yn [0, 1, 2, 3, 4, 5, 6, 7, 12, 13, 14, 15, 16, 32, 83] [] mixed eok (by kernel_rfl) True.intro rfl ?_ | (refine Ysplit rfl rfl (fun hc => ?_) (fun hc => ?_) <;> (fail_if_success (with_reducible first | exact tF hc | exact fT hc)) <;> (try simp only [HCl] at hc) <;> (try (exfalso; omega)))) | refine W_seq ?_ | refine W_region ?_ | refine W_any T.get ?_ | refine W_skip ?_ | refine W_ret ?_ | refine W_block ?_ | refine W_exit ?_ | refine W_cond_t rfl ?_ | refine W_cond_f rfl ?_ | (refine W_cond rfl (fun hc => ?_) (fun hc => ?_) <;> (try simp only [HCl] at hc) <;> (try (exfalso; omega))))
    refine ⟨_, _, rfl, rfl, ?_⟩; simp [Frz_tup, Frz_ag, Frzs_cons, Frzs_nil, Frz_d, Frz_e0, Frz_sl, sln, isSl, slOk]
end Go.Proofs.Ytflikcmbbljgeaa
