/- Written by a program (pre.py) from the source of the same name. -/
/- Views: the same; new ones; with a list. -/
import Derived.Test.YtjiejhikjlhchaaDoorView6
set_option linter.unusedSimpArgs false
set_option linter.unusedVariables false
set_option linter.unnecessarySimpa false
namespace Go.Proofs.YtjiejhikjlhchaaDoor
open Go.Gar
set_option maxRecDepth 4000

theorem fE (f g : Nat → Int) : eqL [.i .i64 (f 0), .i .i64 (f 1), .i .i64 (f 2), .i .i64 (f 3), .i .i64 (f 4), .i .i64 (f 5), .i .i64 (f 6), .i .i64 (f 7), .i .i64 (f 8), .i .i64 (f 9), .i .i64 (f 10), .i .i64 (f 11), .i .i64 (f 12), .i .i64 (f 13), .i .i64 (f 14), .i .i64 (f 15)] [.i .i64 (g 0), .i .i64 (g 1), .i .i64 (g 2), .i .i64 (g 3), .i .i64 (g 4), .i .i64 (g 5), .i .i64 (g 6), .i .i64 (g 7), .i .i64 (g 8), .i .i64 (g 9), .i .i64 (g 10), .i .i64 (g 11), .i .i64 (g 12), .i .i64 (g 13), .i .i64 (g 14), .i .i64 (g 15)] = decide (fins f = fins g) := by
  simp [eqL, eq1, fins, beq_dec]
/-- The same in all. -/
def sameV (v w : View) : Bool := decide (v.id = w.id) && (decide (v.base = w.base) && (decide (v.list = w.list) && (decide (v.pred = w.pred) && decide (fins v.f = fins w.f))))

set_option maxHeartbeats 4000000 in
theorem rSameV_fn (v w : View) (h1 : v.base.length ≤ 100000) (h2 : v.list.length ≤ 100000) : Go.Gar.Fn Tryd.prog 23 [v.d, w.d] (.b (sameV v w)) := by
  obtain ⟨i1, b1, l1, p1, f1⟩ := v
  obtain ⟨i2, b2, l2, p2, f2⟩ := w
  have cB := ints_fn b1 b2 h1
  have cL := ints_fn l1 l2 h2
  have hF := fE f1 f2
  have hS : sameV ⟨i1, b1, l1, p1, f1⟩ ⟨i2, b2, l2, p2, f2⟩ = (decide (i1 = i2) && (decide (b1 = b2) && (decide (l1 = l2) && (decide (p1 = p2) && decide (fins f1 = fins f2))))) := rfl
  rw [hS]
  generalize decide (b1 = b2) = bb at *
  generalize decide (l1 = l2) = bl at *
  generalize decide (fins f1 = fins f2) = bf at *
  refine Fn_of_W eok Tryd.func23 rfl rfl (Nat.le_of_ble_eq_true rfl) ?_
  by_cases e1 : i1 = i2
  · have g1 := eq_true' e1
    rw [decide_eq_true e1]
    cases bb with
    | false =>
      have nS := g1
      repeat' (first | ((with_reducible refine sg ?_); first | with_reducible rfl | ((with_reducible refine fitG ?_); first | kernel_rfl | rfl | (simp [fitT, fitF, nS]; done)) | with_reducible refine andT ?_ ?_ | with_reducible exact Nat.beq_refl _ | with_reducible exact fitsI_u8 _ | ((with_reducible refine decide_eq_true ?_); first | omega | (simp only [SZl, nS]; omega)) | decide | (simp [SZl, slc, allOneD, D.one, allOne, AV.one, nS]; done) | (simp [SZl, nS]; omega)) | ((with_reducible refine gWl ?_); first | (refine Wl_isMv rfl ?_; refine Xmv eok rfl rfl rfl rfl ?_) | refine Xq eok rfl rfl rfl rfl ?_ ?_ | refine Xn [0, 1, 2, 3, 4] rfl ?_ | refine XF (cB) rfl rfl rfl rfl ?_ | refine Xa eok rfl rfl rfl rfl rfl ?_ ?_ | refine Xs rfl rfl rfl ?_ | (refine Xsplit rfl rfl (fun hc => ?_) (fun hc => ?_) <;> (fail_if_success (with_reducible first | exact tF hc | exact fT hc)) <;> (try simp only [HCl] at hc) <;> (try (exfalso; omega)))) | refine W_seq ?_ | refine W_region ?_ | refine W_skip ?_ | refine W_ret ?_ | refine W_block ?_ | refine W_exit ?_ | refine W_cond_t rfl ?_ | refine W_cond_f rfl ?_ | (refine W_cond rfl (fun hc => ?_) (fun hc => ?_) <;> (try simp only [HCl] at hc) <;> (try (exfalso; omega))))
      refine ⟨_, _, rfl, rfl, ?_⟩; simp [Frz_tup, Frz_ag, Frzs_cons, Frzs_nil, Frz_d, Frz_e0, Frz_sl, sln, isSl, slOk]
    | true =>
      cases bl with
      | false =>
        have nS := g1
        repeat' (first | ((with_reducible refine sg ?_); first | with_reducible rfl | ((with_reducible refine fitG ?_); first | kernel_rfl | rfl | (simp [fitT, fitF, nS]; done)) | with_reducible refine andT ?_ ?_ | with_reducible exact Nat.beq_refl _ | with_reducible exact fitsI_u8 _ | ((with_reducible refine decide_eq_true ?_); first | omega | (simp only [SZl, nS]; omega)) | decide | (simp [SZl, slc, allOneD, D.one, allOne, AV.one, nS]; done) | (simp [SZl, nS]; omega)) | ((with_reducible refine gWl ?_); first | (refine Wl_isMv rfl ?_; refine Xmv eok rfl rfl rfl rfl ?_) | refine Xq eok rfl rfl rfl rfl ?_ ?_ | refine Xn [0, 1, 2, 3, 4] rfl ?_ | refine XF (cB) rfl rfl rfl rfl ?_ | refine XF (cL) rfl rfl rfl rfl ?_ | refine Xa eok rfl rfl rfl rfl rfl ?_ ?_ | refine Xs rfl rfl rfl ?_ | (refine Xsplit rfl rfl (fun hc => ?_) (fun hc => ?_) <;> (fail_if_success (with_reducible first | exact tF hc | exact fT hc)) <;> (try simp only [HCl] at hc) <;> (try (exfalso; omega)))) | refine W_seq ?_ | refine W_region ?_ | refine W_skip ?_ | refine W_ret ?_ | refine W_block ?_ | refine W_exit ?_ | refine W_cond_t rfl ?_ | refine W_cond_f rfl ?_ | (refine W_cond rfl (fun hc => ?_) (fun hc => ?_) <;> (try simp only [HCl] at hc) <;> (try (exfalso; omega))))
        refine ⟨_, _, rfl, rfl, ?_⟩; simp [Frz_tup, Frz_ag, Frzs_cons, Frzs_nil, Frz_d, Frz_e0, Frz_sl, sln, isSl, slOk]
      | true =>
        by_cases e2 : p1 = p2
        · have g2 := eq_true' e2
          rw [decide_eq_true e2]
          have nS := And.intro g1 (And.intro g2 hF)
          repeat' (first | ((with_reducible refine sg ?_); first | with_reducible rfl | ((with_reducible refine fitG ?_); first | kernel_rfl | rfl | (simp [fitT, fitF, nS]; done)) | with_reducible refine andT ?_ ?_ | with_reducible exact Nat.beq_refl _ | with_reducible exact fitsI_u8 _ | ((with_reducible refine decide_eq_true ?_); first | omega | (simp only [SZl, nS]; omega)) | decide | (simp [SZl, slc, allOneD, D.one, allOne, AV.one, nS]; done) | (simp [SZl, nS]; omega)) | ((with_reducible refine gWl ?_); first | (refine Wl_isMv rfl ?_; refine Xmv eok rfl rfl rfl rfl ?_) | refine Xq eok rfl rfl rfl rfl ?_ ?_ | refine Xn [0, 1, 2, 3, 4] rfl ?_ | refine XF (cB) rfl rfl rfl rfl ?_ | refine XF (cL) rfl rfl rfl rfl ?_ | refine Xa eok rfl rfl rfl rfl rfl ?_ ?_ | refine Xs rfl rfl rfl ?_ | (refine Xsplit rfl rfl (fun hc => ?_) (fun hc => ?_) <;> (fail_if_success (with_reducible first | exact tF hc | exact fT hc)) <;> (try simp only [HCl] at hc) <;> (try (exfalso; omega)))) | refine W_seq ?_ | refine W_region ?_ | refine W_skip ?_ | refine W_ret ?_ | refine W_block ?_ | refine W_exit ?_ | refine W_cond_t rfl ?_ | refine W_cond_f rfl ?_ | (refine W_cond rfl (fun hc => ?_) (fun hc => ?_) <;> (try simp only [HCl] at hc) <;> (try (exfalso; omega))))
          refine ⟨_, _, rfl, rfl, ?_⟩; simp [Frz_tup, Frz_ag, Frzs_cons, Frzs_nil, Frz_d, Frz_e0, Frz_sl, sln, isSl, slOk]
        · have g2 := eq_false' e2
          rw [decide_eq_false e2]
          have nS := And.intro g1 g2
          repeat' (first | ((with_reducible refine sg ?_); first | with_reducible rfl | ((with_reducible refine fitG ?_); first | kernel_rfl | rfl | (simp [fitT, fitF, nS]; done)) | with_reducible refine andT ?_ ?_ | with_reducible exact Nat.beq_refl _ | with_reducible exact fitsI_u8 _ | ((with_reducible refine decide_eq_true ?_); first | omega | (simp only [SZl, nS]; omega)) | decide | (simp [SZl, slc, allOneD, D.one, allOne, AV.one, nS]; done) | (simp [SZl, nS]; omega)) | ((with_reducible refine gWl ?_); first | (refine Wl_isMv rfl ?_; refine Xmv eok rfl rfl rfl rfl ?_) | refine Xq eok rfl rfl rfl rfl ?_ ?_ | refine Xn [0, 1, 2, 3, 4] rfl ?_ | refine XF (cB) rfl rfl rfl rfl ?_ | refine XF (cL) rfl rfl rfl rfl ?_ | refine Xa eok rfl rfl rfl rfl rfl ?_ ?_ | refine Xs rfl rfl rfl ?_ | (refine Xsplit rfl rfl (fun hc => ?_) (fun hc => ?_) <;> (fail_if_success (with_reducible first | exact tF hc | exact fT hc)) <;> (try simp only [HCl] at hc) <;> (try (exfalso; omega)))) | refine W_seq ?_ | refine W_region ?_ | refine W_skip ?_ | refine W_ret ?_ | refine W_block ?_ | refine W_exit ?_ | refine W_cond_t rfl ?_ | refine W_cond_f rfl ?_ | (refine W_cond rfl (fun hc => ?_) (fun hc => ?_) <;> (try simp only [HCl] at hc) <;> (try (exfalso; omega))))
          refine ⟨_, _, rfl, rfl, ?_⟩; simp [Frz_tup, Frz_ag, Frzs_cons, Frzs_nil, Frz_d, Frz_e0, Frz_sl, sln, isSl, slOk]
  · have g1 := eq_false' e1
    rw [decide_eq_false e1]
    have nS := g1
    repeat' (first | ((with_reducible refine sg ?_); first | with_reducible rfl | ((with_reducible refine fitG ?_); first | kernel_rfl | rfl | (simp [fitT, fitF, nS]; done)) | with_reducible refine andT ?_ ?_ | with_reducible exact Nat.beq_refl _ | with_reducible exact fitsI_u8 _ | ((with_reducible refine decide_eq_true ?_); first | omega | (simp only [SZl, nS]; omega)) | decide | (simp [SZl, slc, allOneD, D.one, allOne, AV.one, nS]; done) | (simp [SZl, nS]; omega)) | ((with_reducible refine gWl ?_); first | (refine Wl_isMv rfl ?_; refine Xmv eok rfl rfl rfl rfl ?_) | refine Xq eok rfl rfl rfl rfl ?_ ?_ | refine Xn [0, 1, 2, 3, 4] rfl ?_ | refine Xa eok rfl rfl rfl rfl rfl ?_ ?_ | refine Xs rfl rfl rfl ?_ | (refine Xsplit rfl rfl (fun hc => ?_) (fun hc => ?_) <;> (fail_if_success (with_reducible first | exact tF hc | exact fT hc)) <;> (try simp only [HCl] at hc) <;> (try (exfalso; omega)))) | refine W_seq ?_ | refine W_region ?_ | refine W_skip ?_ | refine W_ret ?_ | refine W_block ?_ | refine W_exit ?_ | refine W_cond_t rfl ?_ | refine W_cond_f rfl ?_ | (refine W_cond rfl (fun hc => ?_) (fun hc => ?_) <;> (try simp only [HCl] at hc) <;> (try (exfalso; omega))))
    refine ⟨_, _, rfl, rfl, ?_⟩; simp [Frz_tup, Frz_ag, Frzs_cons, Frzs_nil, Frz_d, Frz_e0, Frz_sl, sln, isSl, slOk]
def newV (id : Int) (base : List Int) : View := ⟨id, base, [], -1, fun _ => -1⟩
def zeroV : View := ⟨0, [], [], 0, fun _ => 0⟩
def newT (id : Int) (base : List Int) : View × Int := if rightV (newV id base) then (newV id base, 0) else (zeroV, 2)
def listedT (v : View) (l : List Int) : View := if rightV v && rightL v.id l then ⟨v.id, v.base, l, v.pred, v.f⟩ else v
end Go.Proofs.YtjiejhikjlhchaaDoor
