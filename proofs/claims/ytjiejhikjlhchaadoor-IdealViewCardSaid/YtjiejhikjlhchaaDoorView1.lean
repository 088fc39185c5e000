/- Written by a program (pre.py) from the source of the same name. -/
/- Views: places, ways; rows of numbers. -/
import Derived.Test.YtjiejhikjlhchaaDoorItem1
import Derived.Test.YtjiejhikjlhchaaDoorFwE
set_option linter.unusedSimpArgs false
set_option linter.unusedVariables false
set_option linter.unnecessarySimpa false
namespace Go.Proofs.YtjiejhikjlhchaaDoor
open Go.Gar
set_option maxRecDepth 4000

/-- The place of a number; how far. -/
def plT (n : Int) : Int := n % 65536
def farT (a b : Int) : Int := (b - a) % 65536
theorem plT_lt (n : Int) : 0 ≤ plT n ∧ plT n < 65536 := by unfold plT; omega
theorem farT_lt (a b : Int) : 0 ≤ farT a b ∧ farT a b < 65536 := by unfold farT; omega
theorem far_pl (a b : Int) : plT (plT b - plT a) = farT a b := by unfold plT farT; omega
theorem and_pl (n : Int) : bitsI .and .i64 n 65535 = plT n := by
  have h1 : ((BitVec.ofInt 64 n) &&& (BitVec.ofInt 64 65535)).toNat = (n % 65536).toNat := by
    rw [BitVec.toNat_and]
    have e1 : (BitVec.ofInt 64 65535).toNat = 2 ^ 16 - 1 := by decide
    rw [e1, Nat.and_two_pow_sub_one_eq_mod, BitVec.toNat_ofInt]
    omega
  have e : bitsI .and .i64 n 65535 = IntKind.wrap .i64 (((BitVec.ofInt 64 n) &&& (BitVec.ofInt 64 65535)).toNat : Int) := rfl
  rw [e, h1, IntKind.wrap_i64]
  unfold plT
  omega
theorem tmod_pl (n : Int) : (n.tmod 65536 + 65536).tmod 65536 = plT n := by
  have h1 := Int.tmod_lt_of_pos n (show (0 : Int) < 65536 by decide)
  have h2 := Int.lt_tmod_of_pos n (show (0 : Int) < 65536 by decide)
  rw [Int.tmod_eq_emod_of_nonneg (by omega)]
  unfold plT
  have h3 := Int.tmod_add_mul_tdiv n 65536
  omega

theorem Place_fn (n : Int) : Go.Gar.Fn Tryd.prog 69 [.i .i64 n] (.i .i64 (plT n)) := by
  have e := and_pl n
  refine Fn_of_W eok Tryd.func69 rfl rfl (Nat.le_of_ble_eq_true rfl) ?_
  have nS := e
  repeat' (first | ((with_reducible refine sg ?_); first | with_reducible rfl | ((with_reducible refine fitG ?_); first | kernel_rfl | rfl | (simp [fitT, fitF, nS]; done)) | with_reducible refine andT ?_ ?_ | with_reducible exact Nat.beq_refl _ | with_reducible exact fitsI_u8 _ | ((with_reducible refine decide_eq_true ?_); first | omega | (simp only [SZl, nS]; omega)) | decide | (simp [SZl, slc, allOneD, D.one, allOne, AV.one, nS]; done) | (simp [SZl, nS]; omega)) | ((with_reducible refine gWl ?_); first | (refine Wl_isMv rfl ?_; refine Xmv eok rfl rfl rfl rfl ?_) | refine Xq eok rfl rfl rfl rfl ?_ ?_ | refine Xn [0, 2] rfl ?_) | refine W_seq ?_ | refine W_region ?_ | refine W_skip ?_ | refine W_ret ?_ | refine W_block ?_ | refine W_exit ?_ | refine W_cond_t rfl ?_ | refine W_cond_f rfl ?_ | (refine W_cond rfl (fun hc => ?_) (fun hc => ?_) <;> (try simp only [HCl] at hc) <;> (try (exfalso; omega))))
  refine ⟨_, _, rfl, rfl, ?_⟩; simp [Frz_tup, Frz_ag, Frzs_cons, Frzs_nil, Frz_d, Frz_e0, Frz_sl, sln, isSl, slOk]
theorem Far_fn (a b : Int) : Go.Gar.Fn Tryd.prog 58 [.i .i64 a, .i .i64 b] (.i .i64 (farT a b)) := by
  have c1 := Place_fn a
  have c2 := Place_fn b
  have c3 := Place_fn (plT b - plT a)
  rw [far_pl] at c3
  have h1 := plT_lt a
  have h2 := plT_lt b
  refine Fn_of_W eok Tryd.func58 rfl rfl (Nat.le_of_ble_eq_true rfl) ?_
  have nS := True.intro
  repeat' (first | ((with_reducible refine sg ?_); first | with_reducible rfl | ((with_reducible refine fitG ?_); first | kernel_rfl | rfl | (simp [fitT, fitF, nS]; done)) | with_reducible refine andT ?_ ?_ | with_reducible exact Nat.beq_refl _ | with_reducible exact fitsI_u8 _ | ((with_reducible refine decide_eq_true ?_); first | omega | (simp only [SZl, nS]; omega)) | decide | (simp [SZl, slc, allOneD, D.one, allOne, AV.one, nS]; done) | (simp [SZl, nS]; omega)) | ((with_reducible refine gWl ?_); first | (refine Wl_isMv rfl ?_; refine Xmv eok rfl rfl rfl rfl ?_) | refine Xq eok rfl rfl rfl rfl ?_ ?_ | refine Xn [0, 1, 4] rfl ?_ | refine XF (c1) rfl rfl rfl rfl ?_ | refine XF (c2) rfl rfl rfl rfl ?_ | refine XF (c3) rfl rfl rfl rfl ?_) | refine W_seq ?_ | refine W_region ?_ | refine W_skip ?_ | refine W_ret ?_ | refine W_block ?_ | refine W_exit ?_ | refine W_cond_t rfl ?_ | refine W_cond_f rfl ?_ | (refine W_cond rfl (fun hc => ?_) (fun hc => ?_) <;> (try simp only [HCl] at hc) <;> (try (exfalso; omega))))
  refine ⟨_, _, rfl, rfl, ?_⟩; simp [Frz_tup, Frz_ag, Frzs_cons, Frzs_nil, Frz_d, Frz_e0, Frz_sl, sln, isSl, slOk]
theorem rPlace_fn (n : Int) (hn : -9223372036854775808 ≤ n ∧ n ≤ 9223372036854775807) : Go.Gar.Fn Tryd.prog 34 [.i .i64 n] (.i .i64 (plT n)) := by
  have e := tmod_pl n
  have h1 := Int.tmod_lt_of_pos n (show (0 : Int) < 65536 by decide)
  have h2 := Int.lt_tmod_of_pos n (show (0 : Int) < 65536 by decide)
  refine Fn_of_W eok Tryd.func34 rfl rfl (Nat.le_of_ble_eq_true rfl) ?_
  have nS := e
  repeat' (first | ((with_reducible refine sg ?_); first | with_reducible rfl | ((with_reducible refine fitG ?_); first | kernel_rfl | rfl | (simp [fitT, fitF, nS]; done)) | with_reducible refine andT ?_ ?_ | with_reducible exact Nat.beq_refl _ | with_reducible exact fitsI_u8 _ | ((with_reducible refine decide_eq_true ?_); first | omega | (simp only [SZl, nS]; omega)) | decide | (simp [SZl, slc, allOneD, D.one, allOne, AV.one, nS]; done) | (simp [SZl, nS]; omega)) | ((with_reducible refine gWl ?_); first | (refine Wl_isMv rfl ?_; refine Xmv eok rfl rfl rfl rfl ?_) | refine Xq eok rfl rfl rfl rfl ?_ ?_ | refine Xn [0, 2] rfl ?_) | refine W_seq ?_ | refine W_region ?_ | refine W_skip ?_ | refine W_ret ?_ | refine W_block ?_ | refine W_exit ?_ | refine W_cond_t rfl ?_ | refine W_cond_f rfl ?_ | (refine W_cond rfl (fun hc => ?_) (fun hc => ?_) <;> (try simp only [HCl] at hc) <;> (try (exfalso; omega))))
  refine ⟨_, _, rfl, rfl, ?_⟩; simp [Frz_tup, Frz_ag, Frzs_cons, Frzs_nil, Frz_d, Frz_e0, Frz_sl, sln, isSl, slOk]
/-- A number of the machine. -/
def i64 (n : Int) : Prop := -9223372036854775808 ≤ n ∧ n ≤ 9223372036854775807
theorem rFar_fn (a b : Int) (ha : i64 a) (hb : i64 b) : Go.Gar.Fn Tryd.prog 28 [.i .i64 a, .i .i64 b] (.i .i64 (farT a b)) := by
  have h1 := plT_lt a
  have h2 := plT_lt b
  have c1 := rPlace_fn a ha
  have c2 := rPlace_fn b hb
  have c3 := rPlace_fn (plT b - plT a) (by omega)
  rw [far_pl] at c3
  refine Fn_of_W eok Tryd.func28 rfl rfl (Nat.le_of_ble_eq_true rfl) ?_
  have nS := True.intro
  repeat' (first | ((with_reducible refine sg ?_); first | with_reducible rfl | ((with_reducible refine fitG ?_); first | kernel_rfl | rfl | (simp [fitT, fitF, nS]; done)) | with_reducible refine andT ?_ ?_ | with_reducible exact Nat.beq_refl _ | with_reducible exact fitsI_u8 _ | ((with_reducible refine decide_eq_true ?_); first | omega | (simp only [SZl, nS]; omega)) | decide | (simp [SZl, slc, allOneD, D.one, allOne, AV.one, nS]; done) | (simp [SZl, nS]; omega)) | ((with_reducible refine gWl ?_); first | (refine Wl_isMv rfl ?_; refine Xmv eok rfl rfl rfl rfl ?_) | refine Xq eok rfl rfl rfl rfl ?_ ?_ | refine Xn [0, 1, 4] rfl ?_ | refine XF (c1) rfl rfl rfl rfl ?_ | refine XF (c2) rfl rfl rfl rfl ?_ | refine XF (c3) rfl rfl rfl rfl ?_) | refine W_seq ?_ | refine W_region ?_ | refine W_skip ?_ | refine W_ret ?_ | refine W_block ?_ | refine W_exit ?_ | refine W_cond_t rfl ?_ | refine W_cond_f rfl ?_ | (refine W_cond rfl (fun hc => ?_) (fun hc => ?_) <;> (try simp only [HCl] at hc) <;> (try (exfalso; omega))))
  refine ⟨_, _, rfl, rfl, ?_⟩; simp [Frz_tup, Frz_ag, Frzs_cons, Frzs_nil, Frz_d, Frz_e0, Frz_sl, sln, isSl, slOk]

/-- Is it a place? -/
def isPl (n : Int) : Bool := decide (0 ≤ n ∧ n < 65536)
theorem isPl_t {n : Int} (h : isPl n = true) : 0 ≤ n ∧ n < 65536 := by simpa [isPl] using h
theorem isPl_f {n : Int} (h : isPl n = false) : ¬ (0 ≤ n ∧ n < 65536) := by
  intro h2; rw [isPl, decide_eq_true h2] at h; cases h
theorem isPlace_fn (n : Int) : Go.Gar.Fn Tryd.prog 62 [.i .i64 n] (.b (isPl n)) := by
  refine Fn_of_W eok Tryd.func62 rfl rfl (Nat.le_of_ble_eq_true rfl) ?_
  by_cases h1 : 0 ≤ n
  · have f1 : decide (n ≥ 0) = true := decide_eq_true h1
    by_cases h2 : n < 65536
    · have f2 : decide (n < 65536) = true := decide_eq_true h2
      have e : isPl n = true := decide_eq_true ⟨h1, h2⟩
      rw [e]
      have nS := And.intro f1 f2
      repeat' (first | ((with_reducible refine sg ?_); first | with_reducible rfl | ((with_reducible refine fitG ?_); first | kernel_rfl | rfl | (simp [fitT, fitF, nS]; done)) | with_reducible refine andT ?_ ?_ | with_reducible exact Nat.beq_refl _ | with_reducible exact fitsI_u8 _ | ((with_reducible refine decide_eq_true ?_); first | omega | (simp only [SZl, nS]; omega)) | decide | (simp [SZl, slc, allOneD, D.one, allOne, AV.one, nS]; done) | (simp [SZl, nS]; omega)) | ((with_reducible refine gWl ?_); first | (refine Wl_isMv rfl ?_; refine Xmv eok rfl rfl rfl rfl ?_) | refine Xq eok rfl rfl rfl rfl ?_ ?_ | refine Xn [0, 2] rfl ?_ | refine Xs rfl rfl rfl ?_ | (refine Xsplit rfl rfl (fun hc => ?_) (fun hc => ?_) <;> (fail_if_success (with_reducible first | exact tF hc | exact fT hc)) <;> (try simp only [HCl] at hc) <;> (try (exfalso; omega)))) | refine W_seq ?_ | refine W_region ?_ | refine W_skip ?_ | refine W_ret ?_ | refine W_block ?_ | refine W_exit ?_ | refine W_cond_t rfl ?_ | refine W_cond_f rfl ?_ | (refine W_cond rfl (fun hc => ?_) (fun hc => ?_) <;> (try simp only [HCl] at hc) <;> (try (exfalso; omega))))
      refine ⟨_, _, rfl, rfl, ?_⟩; simp [Frz_tup, Frz_ag, Frzs_cons, Frzs_nil, Frz_d, Frz_e0, Frz_sl, sln, isSl, slOk]
    · have f2 : decide (n < 65536) = false := decide_eq_false h2
      have e : isPl n = false := decide_eq_false fun h => h2 h.2
      rw [e]
      have nS := And.intro f1 f2
      repeat' (first | ((with_reducible refine sg ?_); first | with_reducible rfl | ((with_reducible refine fitG ?_); first | kernel_rfl | rfl | (simp [fitT, fitF, nS]; done)) | with_reducible refine andT ?_ ?_ | with_reducible exact Nat.beq_refl _ | with_reducible exact fitsI_u8 _ | ((with_reducible refine decide_eq_true ?_); first | omega | (simp only [SZl, nS]; omega)) | decide | (simp [SZl, slc, allOneD, D.one, allOne, AV.one, nS]; done) | (simp [SZl, nS]; omega)) | ((with_reducible refine gWl ?_); first | (refine Wl_isMv rfl ?_; refine Xmv eok rfl rfl rfl rfl ?_) | refine Xq eok rfl rfl rfl rfl ?_ ?_ | refine Xn [0, 2] rfl ?_ | refine Xs rfl rfl rfl ?_ | (refine Xsplit rfl rfl (fun hc => ?_) (fun hc => ?_) <;> (fail_if_success (with_reducible first | exact tF hc | exact fT hc)) <;> (try simp only [HCl] at hc) <;> (try (exfalso; omega)))) | refine W_seq ?_ | refine W_region ?_ | refine W_skip ?_ | refine W_ret ?_ | refine W_block ?_ | refine W_exit ?_ | refine W_cond_t rfl ?_ | refine W_cond_f rfl ?_ | (refine W_cond rfl (fun hc => ?_) (fun hc => ?_) <;> (try simp only [HCl] at hc) <;> (try (exfalso; omega))))
      refine ⟨_, _, rfl, rfl, ?_⟩; simp [Frz_tup, Frz_ag, Frzs_cons, Frzs_nil, Frz_d, Frz_e0, Frz_sl, sln, isSl, slOk]
  · have f1 : decide (n ≥ 0) = false := decide_eq_false h1
    have e : isPl n = false := decide_eq_false fun h => h1 h.1
    rw [e]
    have nS := f1
    repeat' (first | ((with_reducible refine sg ?_); first | with_reducible rfl | ((with_reducible refine fitG ?_); first | kernel_rfl | rfl | (simp [fitT, fitF, nS]; done)) | with_reducible refine andT ?_ ?_ | with_reducible exact Nat.beq_refl _ | with_reducible exact fitsI_u8 _ | ((with_reducible refine decide_eq_true ?_); first | omega | (simp only [SZl, nS]; omega)) | decide | (simp [SZl, slc, allOneD, D.one, allOne, AV.one, nS]; done) | (simp [SZl, nS]; omega)) | ((with_reducible refine gWl ?_); first | (refine Wl_isMv rfl ?_; refine Xmv eok rfl rfl rfl rfl ?_) | refine Xq eok rfl rfl rfl rfl ?_ ?_ | refine Xn [0, 2] rfl ?_ | refine Xs rfl rfl rfl ?_ | (refine Xsplit rfl rfl (fun hc => ?_) (fun hc => ?_) <;> (fail_if_success (with_reducible first | exact tF hc | exact fT hc)) <;> (try simp only [HCl] at hc) <;> (try (exfalso; omega)))) | refine W_seq ?_ | refine W_region ?_ | refine W_skip ?_ | refine W_ret ?_ | refine W_block ?_ | refine W_exit ?_ | refine W_cond_t rfl ?_ | refine W_cond_f rfl ?_ | (refine W_cond rfl (fun hc => ?_) (fun hc => ?_) <;> (try simp only [HCl] at hc) <;> (try (exfalso; omega))))
    refine ⟨_, _, rfl, rfl, ?_⟩; simp [Frz_tup, Frz_ag, Frzs_cons, Frzs_nil, Frz_d, Frz_e0, Frz_sl, sln, isSl, slOk]
theorem lPlace_fn (n : Int) : Go.Gar.Fn Tryd.prog 74 [.i .i64 n] (.b (isPl n)) := by
  refine Fn_of_W eok Tryd.func74 rfl rfl (Nat.le_of_ble_eq_true rfl) ?_
  by_cases h1 : 0 ≤ n
  · have f1 : decide (n ≥ 0) = true := decide_eq_true h1
    by_cases h2 : n < 65536
    · have f2 : decide (n < 65536) = true := decide_eq_true h2
      have e : isPl n = true := decide_eq_true ⟨h1, h2⟩
      rw [e]
      have nS := And.intro f1 f2
      repeat' (first | ((with_reducible refine sg ?_); first | with_reducible rfl | ((with_reducible refine fitG ?_); first | kernel_rfl | rfl | (simp [fitT, fitF, nS]; done)) | with_reducible refine andT ?_ ?_ | with_reducible exact Nat.beq_refl _ | with_reducible exact fitsI_u8 _ | ((with_reducible refine decide_eq_true ?_); first | omega | (simp only [SZl, nS]; omega)) | decide | (simp [SZl, slc, allOneD, D.one, allOne, AV.one, nS]; done) | (simp [SZl, nS]; omega)) | ((with_reducible refine gWl ?_); first | (refine Wl_isMv rfl ?_; refine Xmv eok rfl rfl rfl rfl ?_) | refine Xq eok rfl rfl rfl rfl ?_ ?_ | refine Xn [0, 2] rfl ?_ | refine Xs rfl rfl rfl ?_ | (refine Xsplit rfl rfl (fun hc => ?_) (fun hc => ?_) <;> (fail_if_success (with_reducible first | exact tF hc | exact fT hc)) <;> (try simp only [HCl] at hc) <;> (try (exfalso; omega)))) | refine W_seq ?_ | refine W_region ?_ | refine W_skip ?_ | refine W_ret ?_ | refine W_block ?_ | refine W_exit ?_ | refine W_cond_t rfl ?_ | refine W_cond_f rfl ?_ | (refine W_cond rfl (fun hc => ?_) (fun hc => ?_) <;> (try simp only [HCl] at hc) <;> (try (exfalso; omega))))
      refine ⟨_, _, rfl, rfl, ?_⟩; simp [Frz_tup, Frz_ag, Frzs_cons, Frzs_nil, Frz_d, Frz_e0, Frz_sl, sln, isSl, slOk]
    · have f2 : decide (n < 65536) = false := decide_eq_false h2
      have e : isPl n = false := decide_eq_false fun h => h2 h.2
      rw [e]
      have nS := And.intro f1 f2
      repeat' (first | ((with_reducible refine sg ?_); first | with_reducible rfl | ((with_reducible refine fitG ?_); first | kernel_rfl | rfl | (simp [fitT, fitF, nS]; done)) | with_reducible refine andT ?_ ?_ | with_reducible exact Nat.beq_refl _ | with_reducible exact fitsI_u8 _ | ((with_reducible refine decide_eq_true ?_); first | omega | (simp only [SZl, nS]; omega)) | decide | (simp [SZl, slc, allOneD, D.one, allOne, AV.one, nS]; done) | (simp [SZl, nS]; omega)) | ((with_reducible refine gWl ?_); first | (refine Wl_isMv rfl ?_; refine Xmv eok rfl rfl rfl rfl ?_) | refine Xq eok rfl rfl rfl rfl ?_ ?_ | refine Xn [0, 2] rfl ?_ | refine Xs rfl rfl rfl ?_ | (refine Xsplit rfl rfl (fun hc => ?_) (fun hc => ?_) <;> (fail_if_success (with_reducible first | exact tF hc | exact fT hc)) <;> (try simp only [HCl] at hc) <;> (try (exfalso; omega)))) | refine W_seq ?_ | refine W_region ?_ | refine W_skip ?_ | refine W_ret ?_ | refine W_block ?_ | refine W_exit ?_ | refine W_cond_t rfl ?_ | refine W_cond_f rfl ?_ | (refine W_cond rfl (fun hc => ?_) (fun hc => ?_) <;> (try simp only [HCl] at hc) <;> (try (exfalso; omega))))
      refine ⟨_, _, rfl, rfl, ?_⟩; simp [Frz_tup, Frz_ag, Frzs_cons, Frzs_nil, Frz_d, Frz_e0, Frz_sl, sln, isSl, slOk]
  · have f1 : decide (n ≥ 0) = false := decide_eq_false h1
    have e : isPl n = false := decide_eq_false fun h => h1 h.1
    rw [e]
    have nS := f1
    repeat' (first | ((with_reducible refine sg ?_); first | with_reducible rfl | ((with_reducible refine fitG ?_); first | kernel_rfl | rfl | (simp [fitT, fitF, nS]; done)) | with_reducible refine andT ?_ ?_ | with_reducible exact Nat.beq_refl _ | with_reducible exact fitsI_u8 _ | ((with_reducible refine decide_eq_true ?_); first | omega | (simp only [SZl, nS]; omega)) | decide | (simp [SZl, slc, allOneD, D.one, allOne, AV.one, nS]; done) | (simp [SZl, nS]; omega)) | ((with_reducible refine gWl ?_); first | (refine Wl_isMv rfl ?_; refine Xmv eok rfl rfl rfl rfl ?_) | refine Xq eok rfl rfl rfl rfl ?_ ?_ | refine Xn [0, 2] rfl ?_ | refine Xs rfl rfl rfl ?_ | (refine Xsplit rfl rfl (fun hc => ?_) (fun hc => ?_) <;> (fail_if_success (with_reducible first | exact tF hc | exact fT hc)) <;> (try simp only [HCl] at hc) <;> (try (exfalso; omega)))) | refine W_seq ?_ | refine W_region ?_ | refine W_skip ?_ | refine W_ret ?_ | refine W_block ?_ | refine W_exit ?_ | refine W_cond_t rfl ?_ | refine W_cond_f rfl ?_ | (refine W_cond rfl (fun hc => ?_) (fun hc => ?_) <;> (try simp only [HCl] at hc) <;> (try (exfalso; omega))))
    refine ⟨_, _, rfl, rfl, ?_⟩; simp [Frz_tup, Frz_ag, Frzs_cons, Frzs_nil, Frz_d, Frz_e0, Frz_sl, sln, isSl, slOk]
theorem place13_fn (n : Int) : Go.Gar.Fn Tryd.prog 54 [.i .i64 n] (.b (isPl n)) := by
  refine Fn_of_W eok Tryd.func54 rfl rfl (Nat.le_of_ble_eq_true rfl) ?_
  by_cases h1 : 0 ≤ n
  · have f1 : decide (n ≥ 0) = true := decide_eq_true h1
    by_cases h2 : n < 65536
    · have f2 : decide (n < 65536) = true := decide_eq_true h2
      have e : isPl n = true := decide_eq_true ⟨h1, h2⟩
      rw [e]
      have nS := And.intro f1 f2
      repeat' (first | ((with_reducible refine sg ?_); first | with_reducible rfl | ((with_reducible refine fitG ?_); first | kernel_rfl | rfl | (simp [fitT, fitF, nS]; done)) | with_reducible refine andT ?_ ?_ | with_reducible exact Nat.beq_refl _ | with_reducible exact fitsI_u8 _ | ((with_reducible refine decide_eq_true ?_); first | omega | (simp only [SZl, nS]; omega)) | decide | (simp [SZl, slc, allOneD, D.one, allOne, AV.one, nS]; done) | (simp [SZl, nS]; omega)) | ((with_reducible refine gWl ?_); first | (refine Wl_isMv rfl ?_; refine Xmv eok rfl rfl rfl rfl ?_) | refine Xq eok rfl rfl rfl rfl ?_ ?_ | refine Xn [0, 2] rfl ?_ | refine Xs rfl rfl rfl ?_ | (refine Xsplit rfl rfl (fun hc => ?_) (fun hc => ?_) <;> (fail_if_success (with_reducible first | exact tF hc | exact fT hc)) <;> (try simp only [HCl] at hc) <;> (try (exfalso; omega)))) | refine W_seq ?_ | refine W_region ?_ | refine W_skip ?_ | refine W_ret ?_ | refine W_block ?_ | refine W_exit ?_ | refine W_cond_t rfl ?_ | refine W_cond_f rfl ?_ | (refine W_cond rfl (fun hc => ?_) (fun hc => ?_) <;> (try simp only [HCl] at hc) <;> (try (exfalso; omega))))
      refine ⟨_, _, rfl, rfl, ?_⟩; simp [Frz_tup, Frz_ag, Frzs_cons, Frzs_nil, Frz_d, Frz_e0, Frz_sl, sln, isSl, slOk]
    · have f2 : decide (n < 65536) = false := decide_eq_false h2
      have e : isPl n = false := decide_eq_false fun h => h2 h.2
      rw [e]
      have nS := And.intro f1 f2
      repeat' (first | ((with_reducible refine sg ?_); first | with_reducible rfl | ((with_reducible refine fitG ?_); first | kernel_rfl | rfl | (simp [fitT, fitF, nS]; done)) | with_reducible refine andT ?_ ?_ | with_reducible exact Nat.beq_refl _ | with_reducible exact fitsI_u8 _ | ((with_reducible refine decide_eq_true ?_); first | omega | (simp only [SZl, nS]; omega)) | decide | (simp [SZl, slc, allOneD, D.one, allOne, AV.one, nS]; done) | (simp [SZl, nS]; omega)) | ((with_reducible refine gWl ?_); first | (refine Wl_isMv rfl ?_; refine Xmv eok rfl rfl rfl rfl ?_) | refine Xq eok rfl rfl rfl rfl ?_ ?_ | refine Xn [0, 2] rfl ?_ | refine Xs rfl rfl rfl ?_ | (refine Xsplit rfl rfl (fun hc => ?_) (fun hc => ?_) <;> (fail_if_success (with_reducible first | exact tF hc | exact fT hc)) <;> (try simp only [HCl] at hc) <;> (try (exfalso; omega)))) | refine W_seq ?_ | refine W_region ?_ | refine W_skip ?_ | refine W_ret ?_ | refine W_block ?_ | refine W_exit ?_ | refine W_cond_t rfl ?_ | refine W_cond_f rfl ?_ | (refine W_cond rfl (fun hc => ?_) (fun hc => ?_) <;> (try simp only [HCl] at hc) <;> (try (exfalso; omega))))
      refine ⟨_, _, rfl, rfl, ?_⟩; simp [Frz_tup, Frz_ag, Frzs_cons, Frzs_nil, Frz_d, Frz_e0, Frz_sl, sln, isSl, slOk]
  · have f1 : decide (n ≥ 0) = false := decide_eq_false h1
    have e : isPl n = false := decide_eq_false fun h => h1 h.1
    rw [e]
    have nS := f1
    repeat' (first | ((with_reducible refine sg ?_); first | with_reducible rfl | ((with_reducible refine fitG ?_); first | kernel_rfl | rfl | (simp [fitT, fitF, nS]; done)) | with_reducible refine andT ?_ ?_ | with_reducible exact Nat.beq_refl _ | with_reducible exact fitsI_u8 _ | ((with_reducible refine decide_eq_true ?_); first | omega | (simp only [SZl, nS]; omega)) | decide | (simp [SZl, slc, allOneD, D.one, allOne, AV.one, nS]; done) | (simp [SZl, nS]; omega)) | ((with_reducible refine gWl ?_); first | (refine Wl_isMv rfl ?_; refine Xmv eok rfl rfl rfl rfl ?_) | refine Xq eok rfl rfl rfl rfl ?_ ?_ | refine Xn [0, 2] rfl ?_ | refine Xs rfl rfl rfl ?_ | (refine Xsplit rfl rfl (fun hc => ?_) (fun hc => ?_) <;> (fail_if_success (with_reducible first | exact tF hc | exact fT hc)) <;> (try simp only [HCl] at hc) <;> (try (exfalso; omega)))) | refine W_seq ?_ | refine W_region ?_ | refine W_skip ?_ | refine W_ret ?_ | refine W_block ?_ | refine W_exit ?_ | refine W_cond_t rfl ?_ | refine W_cond_f rfl ?_ | (refine W_cond rfl (fun hc => ?_) (fun hc => ?_) <;> (try simp only [HCl] at hc) <;> (try (exfalso; omega))))
    refine ⟨_, _, rfl, rfl, ?_⟩; simp [Frz_tup, Frz_ag, Frzs_cons, Frzs_nil, Frz_d, Frz_e0, Frz_sl, sln, isSl, slOk]
theorem place12_fn (n : Int) : Go.Gar.Fn Tryd.prog 51 [.i .i64 n] (.b (isPl n)) := by
  refine Fn_of_W eok Tryd.func51 rfl rfl (Nat.le_of_ble_eq_true rfl) ?_
  by_cases h1 : 0 ≤ n
  · have f1 : decide (n ≥ 0) = true := decide_eq_true h1
    by_cases h2 : n < 65536
    · have f2 : decide (n < 65536) = true := decide_eq_true h2
      have e : isPl n = true := decide_eq_true ⟨h1, h2⟩
      rw [e]
      have nS := And.intro f1 f2
      repeat' (first | ((with_reducible refine sg ?_); first | with_reducible rfl | ((with_reducible refine fitG ?_); first | kernel_rfl | rfl | (simp [fitT, fitF, nS]; done)) | with_reducible refine andT ?_ ?_ | with_reducible exact Nat.beq_refl _ | with_reducible exact fitsI_u8 _ | ((with_reducible refine decide_eq_true ?_); first | omega | (simp only [SZl, nS]; omega)) | decide | (simp [SZl, slc, allOneD, D.one, allOne, AV.one, nS]; done) | (simp [SZl, nS]; omega)) | ((with_reducible refine gWl ?_); first | (refine Wl_isMv rfl ?_; refine Xmv eok rfl rfl rfl rfl ?_) | refine Xq eok rfl rfl rfl rfl ?_ ?_ | refine Xn [0, 2] rfl ?_ | refine Xs rfl rfl rfl ?_ | (refine Xsplit rfl rfl (fun hc => ?_) (fun hc => ?_) <;> (fail_if_success (with_reducible first | exact tF hc | exact fT hc)) <;> (try simp only [HCl] at hc) <;> (try (exfalso; omega)))) | refine W_seq ?_ | refine W_region ?_ | refine W_skip ?_ | refine W_ret ?_ | refine W_block ?_ | refine W_exit ?_ | refine W_cond_t rfl ?_ | refine W_cond_f rfl ?_ | (refine W_cond rfl (fun hc => ?_) (fun hc => ?_) <;> (try simp only [HCl] at hc) <;> (try (exfalso; omega))))
      refine ⟨_, _, rfl, rfl, ?_⟩; simp [Frz_tup, Frz_ag, Frzs_cons, Frzs_nil, Frz_d, Frz_e0, Frz_sl, sln, isSl, slOk]
    · have f2 : decide (n < 65536) = false := decide_eq_false h2
      have e : isPl n = false := decide_eq_false fun h => h2 h.2
      rw [e]
      have nS := And.intro f1 f2
      repeat' (first | ((with_reducible refine sg ?_); first | with_reducible rfl | ((with_reducible refine fitG ?_); first | kernel_rfl | rfl | (simp [fitT, fitF, nS]; done)) | with_reducible refine andT ?_ ?_ | with_reducible exact Nat.beq_refl _ | with_reducible exact fitsI_u8 _ | ((with_reducible refine decide_eq_true ?_); first | omega | (simp only [SZl, nS]; omega)) | decide | (simp [SZl, slc, allOneD, D.one, allOne, AV.one, nS]; done) | (simp [SZl, nS]; omega)) | ((with_reducible refine gWl ?_); first | (refine Wl_isMv rfl ?_; refine Xmv eok rfl rfl rfl rfl ?_) | refine Xq eok rfl rfl rfl rfl ?_ ?_ | refine Xn [0, 2] rfl ?_ | refine Xs rfl rfl rfl ?_ | (refine Xsplit rfl rfl (fun hc => ?_) (fun hc => ?_) <;> (fail_if_success (with_reducible first | exact tF hc | exact fT hc)) <;> (try simp only [HCl] at hc) <;> (try (exfalso; omega)))) | refine W_seq ?_ | refine W_region ?_ | refine W_skip ?_ | refine W_ret ?_ | refine W_block ?_ | refine W_exit ?_ | refine W_cond_t rfl ?_ | refine W_cond_f rfl ?_ | (refine W_cond rfl (fun hc => ?_) (fun hc => ?_) <;> (try simp only [HCl] at hc) <;> (try (exfalso; omega))))
      refine ⟨_, _, rfl, rfl, ?_⟩; simp [Frz_tup, Frz_ag, Frzs_cons, Frzs_nil, Frz_d, Frz_e0, Frz_sl, sln, isSl, slOk]
  · have f1 : decide (n ≥ 0) = false := decide_eq_false h1
    have e : isPl n = false := decide_eq_false fun h => h1 h.1
    rw [e]
    have nS := f1
    repeat' (first | ((with_reducible refine sg ?_); first | with_reducible rfl | ((with_reducible refine fitG ?_); first | kernel_rfl | rfl | (simp [fitT, fitF, nS]; done)) | with_reducible refine andT ?_ ?_ | with_reducible exact Nat.beq_refl _ | with_reducible exact fitsI_u8 _ | ((with_reducible refine decide_eq_true ?_); first | omega | (simp only [SZl, nS]; omega)) | decide | (simp [SZl, slc, allOneD, D.one, allOne, AV.one, nS]; done) | (simp [SZl, nS]; omega)) | ((with_reducible refine gWl ?_); first | (refine Wl_isMv rfl ?_; refine Xmv eok rfl rfl rfl rfl ?_) | refine Xq eok rfl rfl rfl rfl ?_ ?_ | refine Xn [0, 2] rfl ?_ | refine Xs rfl rfl rfl ?_ | (refine Xsplit rfl rfl (fun hc => ?_) (fun hc => ?_) <;> (fail_if_success (with_reducible first | exact tF hc | exact fT hc)) <;> (try simp only [HCl] at hc) <;> (try (exfalso; omega)))) | refine W_seq ?_ | refine W_region ?_ | refine W_skip ?_ | refine W_ret ?_ | refine W_block ?_ | refine W_exit ?_ | refine W_cond_t rfl ?_ | refine W_cond_f rfl ?_ | (refine W_cond rfl (fun hc => ?_) (fun hc => ?_) <;> (try simp only [HCl] at hc) <;> (try (exfalso; omega))))
    refine ⟨_, _, rfl, rfl, ?_⟩; simp [Frz_tup, Frz_ag, Frzs_cons, Frzs_nil, Frz_d, Frz_e0, Frz_sl, sln, isSl, slOk]

/-! ### Rows of numbers -/
theorem Clone_fn (l : List Int) (hl : l.length ≤ 100000) : Go.Gar.Fn Tryd.prog 37 [.is l] (.is l) := by
  refine Fn_of_W eok Tryd.func37 rfl rfl (Nat.le_of_ble_eq_true rfl) ?_
  have nS := True.intro
  repeat' (first | ((with_reducible refine sg ?_); first | with_reducible rfl | ((with_reducible refine fitG ?_); first | kernel_rfl | rfl | (simp [fitT, fitF, nS]; done)) | with_reducible refine andT ?_ ?_ | with_reducible exact Nat.beq_refl _ | with_reducible exact fitsI_u8 _ | ((with_reducible refine decide_eq_true ?_); first | omega | (simp only [SZl, nS]; omega)) | decide | (simp [SZl, slc, allOneD, D.one, allOne, AV.one, nS]; done) | (simp [SZl, nS]; omega)) | ((with_reducible refine gWl ?_); first | (refine Wl_isMv rfl ?_; refine Xmv eok rfl rfl rfl rfl ?_) | refine XsnE eok rfl rfl rfl rfl rfl rfl (fun hnil => ?_) ?_ | refine XsnN eok rfl rfl rfl rfl rfl rfl (fun hnil => ?_) ?_ | refine Xq eok rfl rfl rfl rfl ?_ ?_ | refine Xn [0, 2, 4] rfl ?_ | refine Xw eok rfl rfl rfl rfl ?_ ?_) | refine W_seq ?_ | refine W_region ?_ | refine W_skip ?_ | refine W_ret ?_ | refine W_block ?_ | refine W_exit ?_ | refine W_cond_t rfl ?_ | refine W_cond_f rfl ?_ | (refine W_cond rfl (fun hc => ?_) (fun hc => ?_) <;> (try simp only [HCl] at hc) <;> (try (exfalso; omega))))
  · have e := is_nil hnil
    subst e
    refine ⟨_, _, rfl, rfl, ?_⟩; simp [Frz_tup, Frz_ag, Frzs_cons, Frzs_nil, Frz_d, Frz_e0, Frz_sl, sln, isSl, slOk]
  · refine ⟨_, _, rfl, rfl, ?_⟩; simp [Frz_tup, Frz_ag, Frzs_cons, Frzs_nil, Frz_d, Frz_e0, Frz_sl, sln, isSl, slOk]
theorem getD_of {l : List Int} {k : Nat} {x : Int} (hx : l[k]? = some x) : l.getD k 0 = x := by rw [List.getD_eq_getElem?_getD, hx]; rfl
theorem Index_no (l : List Int) (x : Int) (hl : l.length ≤ 100000) (hx : ∀ y ∈ l, x ≠ y) : Go.Gar.Fn Tryd.prog 71 [.is l, .i .i64 x] (.i .i64 (-1)) := by
  refine Fn_of_W eok Tryd.func71 rfl rfl (Nat.le_of_ble_eq_true rfl) ?_
  have nS := True.intro
  repeat' (first | ((with_reducible refine sg ?_); first | with_reducible rfl | ((with_reducible refine fitG ?_); first | kernel_rfl | rfl | (simp [fitT, fitF, nS]; done)) | with_reducible refine andT ?_ ?_ | with_reducible exact Nat.beq_refl _ | with_reducible exact fitsI_u8 _ | ((with_reducible refine decide_eq_true ?_); first | omega | (simp only [SZl, nS]; omega)) | decide | (simp [SZl, slc, allOneD, D.one, allOne, AV.one, nS]; done) | (simp [SZl, nS]; omega)) | ((with_reducible refine gWl ?_); first | (refine Wl_isMv rfl ?_; refine Xmv eok rfl rfl rfl rfl ?_) | refine Xq eok rfl rfl rfl rfl ?_ ?_ | refine Xn [0, 1, 4, 5, 7, 8, 9, 16] rfl ?_) | refine W_seq ?_ | refine W_region ?_ | refine W_skip ?_ | refine W_ret ?_ | refine W_block ?_ | refine W_exit ?_ | refine W_cond_t rfl ?_ | refine W_cond_f rfl ?_ | (refine W_cond rfl (fun hc => ?_) (fun hc => ?_) <;> (try simp only [HCl] at hc) <;> (try (exfalso; omega))))
  refine W_loopI (fun k => k ≤ l.length) (fun k : Nat => ⟨[(0, .d (.is l)), (1, .d (.i .i64 x)), (4, .d (.i .i64 0)), (7, .d (.i .i64 l.length)), (8, .d (.i .i64 k))], [], 19⟩) (fun k => l.length - k) 0 (Nat.zero_le _) ?_ (Nat.le_refl _) ?_
  · exact TSub.cut rfl (by repeat' (first | exact True.intro | refine And.intro (by (first | rfl | ((with_reducible_and_instances refine congrArg (fun z => some (AV.d (D.i _ z))) ?_); omega) | (refine congrArg (fun z => some (AV.d (D.i _ z))) (?_ : (_ : Int) = _); omega) | (refine congrArg some ?_; simp; done))) ?_)) (by repeat' (first | exact True.intro | refine And.intro (Or.inr rfl) ?_ | refine And.intro (Or.inl ⟨rfl, rfl⟩) ?_ | refine And.intro (Or.inr (by simp)) ?_)) (by first | rfl | (simp (decide := true) [heapOk, Blk.ok, AV.oks, AV.ok, hk]; done)) rfl
  intro k hk
  by_cases hkl : k < l.length
  · obtain ⟨y, hy⟩ := get_of hkl
    have gy := getD_of hy
    have f1 := eq_false' (hx y (List.mem_of_getElem? hy))
    have nS := And.intro gy f1
    repeat' (first | ((with_reducible refine sg ?_); first | with_reducible rfl | ((with_reducible refine fitG ?_); first | kernel_rfl | rfl | (simp [fitT, fitF, nS]; done)) | with_reducible refine andT ?_ ?_ | with_reducible exact Nat.beq_refl _ | with_reducible exact fitsI_u8 _ | ((with_reducible refine decide_eq_true ?_); first | omega | (simp only [SZl, nS]; omega)) | decide | (simp [SZl, slc, allOneD, D.one, allOne, AV.one, nS]; done) | (simp [SZl, nS]; omega)) | ((with_reducible refine gWl ?_); first | (refine Wl_isMv rfl ?_; refine Xmv eok rfl rfl rfl rfl ?_) | refine Xq eok rfl rfl rfl rfl ?_ ?_ | refine Xn [0, 1, 4, 5, 7, 8, 9, 16] rfl ?_) | refine W_seq ?_ | refine W_region ?_ | refine W_skip ?_ | refine W_ret ?_ | refine W_block ?_ | refine W_exit ?_ | refine W_cond_t rfl ?_ | refine W_cond_f rfl ?_ | (refine W_cond rfl (fun hc => ?_) (fun hc => ?_) <;> (try simp only [HCl] at hc) <;> (try (exfalso; omega))))
    refine ⟨k + 1, hkl, by omega, Nat.le_refl _, ?_⟩
    exact TSub.cut rfl (by repeat' (first | exact True.intro | refine And.intro (by (first | rfl | ((with_reducible_and_instances refine congrArg (fun z => some (AV.d (D.i _ z))) ?_); omega) | (refine congrArg (fun z => some (AV.d (D.i _ z))) (?_ : (_ : Int) = _); omega) | (refine congrArg some ?_; simp; done))) ?_)) (by repeat' (first | exact True.intro | refine And.intro (Or.inr rfl) ?_ | refine And.intro (Or.inl ⟨rfl, rfl⟩) ?_ | refine And.intro (Or.inr (by simp)) ?_)) (by first | rfl | (simp (decide := true) [heapOk, Blk.ok, AV.oks, AV.ok, hk]; done)) rfl
  · have e : k = l.length := by omega
    subst e
    have nS := True.intro
    repeat' (first | ((with_reducible refine sg ?_); first | with_reducible rfl | ((with_reducible refine fitG ?_); first | kernel_rfl | rfl | (simp [fitT, fitF, nS]; done)) | with_reducible refine andT ?_ ?_ | with_reducible exact Nat.beq_refl _ | with_reducible exact fitsI_u8 _ | ((with_reducible refine decide_eq_true ?_); first | omega | (simp only [SZl, nS]; omega)) | decide | (simp [SZl, slc, allOneD, D.one, allOne, AV.one, nS]; done) | (simp [SZl, nS]; omega)) | ((with_reducible refine gWl ?_); first | (refine Wl_isMv rfl ?_; refine Xmv eok rfl rfl rfl rfl ?_) | refine Xq eok rfl rfl rfl rfl ?_ ?_ | refine Xn [0, 1, 4, 5, 7, 8, 9, 16] rfl ?_) | refine W_seq ?_ | refine W_region ?_ | refine W_skip ?_ | refine W_ret ?_ | refine W_block ?_ | refine W_exit ?_ | refine W_cond_t rfl ?_ | refine W_cond_f rfl ?_ | (refine W_cond rfl (fun hc => ?_) (fun hc => ?_) <;> (try simp only [HCl] at hc) <;> (try (exfalso; omega))))
    refine ⟨_, _, rfl, rfl, ?_⟩; simp [Frz_tup, Frz_ag, Frzs_cons, Frzs_nil, Frz_d, Frz_e0, Frz_sl, sln, isSl, slOk]
theorem Index_at (l : List Int) (x : Int) (n : Nat) (hl : l.length ≤ 100000) (hn : l[n]? = some x) (hx : ∀ j y, j < n → l[j]? = some y → x ≠ y) : Go.Gar.Fn Tryd.prog 71 [.is l, .i .i64 x] (.i .i64 n) := by
  refine Fn_of_W eok Tryd.func71 rfl rfl (Nat.le_of_ble_eq_true rfl) ?_
  have hnl := (List.getElem?_eq_some_iff.1 hn).1
  have nS := True.intro
  repeat' (first | ((with_reducible refine sg ?_); first | with_reducible rfl | ((with_reducible refine fitG ?_); first | kernel_rfl | rfl | (simp [fitT, fitF, nS]; done)) | with_reducible refine andT ?_ ?_ | with_reducible exact Nat.beq_refl _ | with_reducible exact fitsI_u8 _ | ((with_reducible refine decide_eq_true ?_); first | omega | (simp only [SZl, nS]; omega)) | decide | (simp [SZl, slc, allOneD, D.one, allOne, AV.one, nS]; done) | (simp [SZl, nS]; omega)) | ((with_reducible refine gWl ?_); first | (refine Wl_isMv rfl ?_; refine Xmv eok rfl rfl rfl rfl ?_) | refine Xq eok rfl rfl rfl rfl ?_ ?_ | refine Xn [0, 1, 4, 5, 7, 8, 9, 16] rfl ?_) | refine W_seq ?_ | refine W_region ?_ | refine W_skip ?_ | refine W_ret ?_ | refine W_block ?_ | refine W_exit ?_ | refine W_cond_t rfl ?_ | refine W_cond_f rfl ?_ | (refine W_cond rfl (fun hc => ?_) (fun hc => ?_) <;> (try simp only [HCl] at hc) <;> (try (exfalso; omega))))
  refine W_loopI (fun k => k ≤ n) (fun k : Nat => ⟨[(0, .d (.is l)), (1, .d (.i .i64 x)), (4, .d (.i .i64 0)), (7, .d (.i .i64 l.length)), (8, .d (.i .i64 k))], [], 19⟩) (fun k => n - k) 0 (Nat.zero_le _) ?_ (Nat.le_refl _) ?_
  · exact TSub.cut rfl (by repeat' (first | exact True.intro | refine And.intro (by (first | rfl | ((with_reducible_and_instances refine congrArg (fun z => some (AV.d (D.i _ z))) ?_); omega) | (refine congrArg (fun z => some (AV.d (D.i _ z))) (?_ : (_ : Int) = _); omega) | (refine congrArg some ?_; simp; done))) ?_)) (by repeat' (first | exact True.intro | refine And.intro (Or.inr rfl) ?_ | refine And.intro (Or.inl ⟨rfl, rfl⟩) ?_ | refine And.intro (Or.inr (by simp)) ?_)) (by first | rfl | (simp (decide := true) [heapOk, Blk.ok, AV.oks, AV.ok, hk]; done)) rfl
  intro k hk
  by_cases hkl : k < n
  · obtain ⟨y, hy⟩ := get_of (xs := l) (k := k) (by omega)
    have gy := getD_of hy
    have f1 := eq_false' (hx k y hkl hy)
    have nS := And.intro gy f1
    repeat' (first | ((with_reducible refine sg ?_); first | with_reducible rfl | ((with_reducible refine fitG ?_); first | kernel_rfl | rfl | (simp [fitT, fitF, nS]; done)) | with_reducible refine andT ?_ ?_ | with_reducible exact Nat.beq_refl _ | with_reducible exact fitsI_u8 _ | ((with_reducible refine decide_eq_true ?_); first | omega | (simp only [SZl, nS]; omega)) | decide | (simp [SZl, slc, allOneD, D.one, allOne, AV.one, nS]; done) | (simp [SZl, nS]; omega)) | ((with_reducible refine gWl ?_); first | (refine Wl_isMv rfl ?_; refine Xmv eok rfl rfl rfl rfl ?_) | refine Xq eok rfl rfl rfl rfl ?_ ?_ | refine Xn [0, 1, 4, 5, 7, 8, 9, 16] rfl ?_) | refine W_seq ?_ | refine W_region ?_ | refine W_skip ?_ | refine W_ret ?_ | refine W_block ?_ | refine W_exit ?_ | refine W_cond_t rfl ?_ | refine W_cond_f rfl ?_ | (refine W_cond rfl (fun hc => ?_) (fun hc => ?_) <;> (try simp only [HCl] at hc) <;> (try (exfalso; omega))))
    refine ⟨k + 1, hkl, by omega, Nat.le_refl _, ?_⟩
    exact TSub.cut rfl (by repeat' (first | exact True.intro | refine And.intro (by (first | rfl | ((with_reducible_and_instances refine congrArg (fun z => some (AV.d (D.i _ z))) ?_); omega) | (refine congrArg (fun z => some (AV.d (D.i _ z))) (?_ : (_ : Int) = _); omega) | (refine congrArg some ?_; simp; done))) ?_)) (by repeat' (first | exact True.intro | refine And.intro (Or.inr rfl) ?_ | refine And.intro (Or.inl ⟨rfl, rfl⟩) ?_ | refine And.intro (Or.inr (by simp)) ?_)) (by first | rfl | (simp (decide := true) [heapOk, Blk.ok, AV.oks, AV.ok, hk]; done)) rfl
  · have e : k = n := by omega
    subst e
    have gy := getD_of hn
    have nS := gy
    repeat' (first | ((with_reducible refine sg ?_); first | with_reducible rfl | ((with_reducible refine fitG ?_); first | kernel_rfl | rfl | (simp [fitT, fitF, nS]; done)) | with_reducible refine andT ?_ ?_ | with_reducible exact Nat.beq_refl _ | with_reducible exact fitsI_u8 _ | ((with_reducible refine decide_eq_true ?_); first | omega | (simp only [SZl, nS]; omega)) | decide | (simp [SZl, slc, allOneD, D.one, allOne, AV.one, nS]; done) | (simp [SZl, nS]; omega)) | ((with_reducible refine gWl ?_); first | (refine Wl_isMv rfl ?_; refine Xmv eok rfl rfl rfl rfl ?_) | refine Xq eok rfl rfl rfl rfl ?_ ?_ | refine Xn [0, 1, 4, 5, 7, 8, 9, 16] rfl ?_) | refine W_seq ?_ | refine W_region ?_ | refine W_skip ?_ | refine W_ret ?_ | refine W_block ?_ | refine W_exit ?_ | refine W_cond_t rfl ?_ | refine W_cond_f rfl ?_ | (refine W_cond rfl (fun hc => ?_) (fun hc => ?_) <;> (try simp only [HCl] at hc) <;> (try (exfalso; omega))))
    refine ⟨_, _, rfl, rfl, ?_⟩; simp [Frz_tup, Frz_ag, Frzs_cons, Frzs_nil, Frz_d, Frz_e0, Frz_sl, sln, isSl, slOk]
theorem Contains_fn (l : List Int) (x : Int) (hl : l.length ≤ 100000) : Go.Gar.Fn Tryd.prog 59 [.is l, .i .i64 x] (.b (decide (x ∈ l))) := by
  refine Fn_of_W eok Tryd.func59 rfl rfl (Nat.le_of_ble_eq_true rfl) ?_
  by_cases hm : x ∈ l
  · obtain ⟨n, hn⟩ : ∃ n, l.findIdx? (fun y => y == x) = some n := by
      cases h : l.findIdx? (fun y => y == x) with
      | some n => exact ⟨n, rfl⟩
      | none => rw [List.findIdx?_eq_none_iff] at h; have := h x hm; simp at this
    obtain ⟨h1, h2, h3⟩ := List.findIdx?_eq_some_iff_getElem.1 hn
    have c := Index_at l x n hl (by rw [List.getElem?_eq_getElem h1]; simpa using h2) (fun j y hj hy e => by
      have := h3 j hj
      rw [(List.getElem?_eq_some_iff.1 hy).2, e] at this
      simp at this)
    rw [decide_eq_true hm]
    have f1 : decide ((n : Int) ≥ 0) = true := decide_eq_true (by omega)
    have nS := f1
    repeat' (first | ((with_reducible refine sg ?_); first | with_reducible rfl | ((with_reducible refine fitG ?_); first | kernel_rfl | rfl | (simp [fitT, fitF, nS]; done)) | with_reducible refine andT ?_ ?_ | with_reducible exact Nat.beq_refl _ | with_reducible exact fitsI_u8 _ | ((with_reducible refine decide_eq_true ?_); first | omega | (simp only [SZl, nS]; omega)) | decide | (simp [SZl, slc, allOneD, D.one, allOne, AV.one, nS]; done) | (simp [SZl, nS]; omega)) | ((with_reducible refine gWl ?_); first | (refine Wl_isMv rfl ?_; refine Xmv eok rfl rfl rfl rfl ?_) | refine Xq eok rfl rfl rfl rfl ?_ ?_ | refine Xn [0, 1, 4] rfl ?_ | refine XF (c) rfl rfl rfl rfl ?_) | refine W_seq ?_ | refine W_region ?_ | refine W_skip ?_ | refine W_ret ?_ | refine W_block ?_ | refine W_exit ?_ | refine W_cond_t rfl ?_ | refine W_cond_f rfl ?_ | (refine W_cond rfl (fun hc => ?_) (fun hc => ?_) <;> (try simp only [HCl] at hc) <;> (try (exfalso; omega))))
    refine ⟨_, _, rfl, rfl, ?_⟩; simp [Frz_tup, Frz_ag, Frzs_cons, Frzs_nil, Frz_d, Frz_e0, Frz_sl, sln, isSl, slOk]
  · have c := Index_no l x hl (fun y hy e => hm (e ▸ hy))
    rw [decide_eq_false hm]
    have nS := True.intro
    repeat' (first | ((with_reducible refine sg ?_); first | with_reducible rfl | ((with_reducible refine fitG ?_); first | kernel_rfl | rfl | (simp [fitT, fitF, nS]; done)) | with_reducible refine andT ?_ ?_ | with_reducible exact Nat.beq_refl _ | with_reducible exact fitsI_u8 _ | ((with_reducible refine decide_eq_true ?_); first | omega | (simp only [SZl, nS]; omega)) | decide | (simp [SZl, slc, allOneD, D.one, allOne, AV.one, nS]; done) | (simp [SZl, nS]; omega)) | ((with_reducible refine gWl ?_); first | (refine Wl_isMv rfl ?_; refine Xmv eok rfl rfl rfl rfl ?_) | refine Xq eok rfl rfl rfl rfl ?_ ?_ | refine Xn [0, 1, 4] rfl ?_ | refine XF (c) rfl rfl rfl rfl ?_) | refine W_seq ?_ | refine W_region ?_ | refine W_skip ?_ | refine W_ret ?_ | refine W_block ?_ | refine W_exit ?_ | refine W_cond_t rfl ?_ | refine W_cond_f rfl ?_ | (refine W_cond rfl (fun hc => ?_) (fun hc => ?_) <;> (try simp only [HCl] at hc) <;> (try (exfalso; omega))))
    refine ⟨_, _, rfl, rfl, ?_⟩; simp [Frz_tup, Frz_ag, Frzs_cons, Frzs_nil, Frz_d, Frz_e0, Frz_sl, sln, isSl, slOk]
theorem ints_fn (a b : List Int) (hl : a.length ≤ 100000) : Go.Gar.Fn Tryd.prog 12 [.is a, .is b] (.b (decide (a = b))) := by
  refine Fn_of_W eok Tryd.func12 rfl rfl (Nat.le_of_ble_eq_true rfl) ?_
  by_cases heq : a.length = b.length
  · have e1 : ((a.length : Int) != (b.length : Int)) = false := ne_false (by omega)
    have nS := e1
    repeat' (first | ((with_reducible refine sg ?_); first | with_reducible rfl | ((with_reducible refine fitG ?_); first | kernel_rfl | rfl | (simp [fitT, fitF, nS]; done)) | with_reducible refine andT ?_ ?_ | with_reducible exact Nat.beq_refl _ | with_reducible exact fitsI_u8 _ | ((with_reducible refine decide_eq_true ?_); first | omega | (simp only [SZl, nS]; omega)) | decide | (simp [SZl, slc, allOneD, D.one, allOne, AV.one, nS]; done) | (simp [SZl, nS]; omega)) | ((with_reducible refine gWl ?_); first | (refine Wl_isMv rfl ?_; refine Xmv eok rfl rfl rfl rfl ?_) | refine Xq eok rfl rfl rfl rfl ?_ ?_ | refine Xn [0, 1, 4, 5, 10, 14, 25] rfl ?_) | ((with_reducible refine gWd ?_); first | (refine Wd_isMv rfl ?_; refine Ymv eok rfl rfl (fun _ => rfl) rfl rfl ?_) | refine Yp eok rfl rfl (fun _ => rfl) rfl rfl ?_ ?_ | refine Yq rfl rfl rfl rfl rfl ?_ ?_ | refine Ys rfl rfl rfl rfl ?_ | refine Ya eok rfl rfl rfl rfl rfl rfl ?_ ?_ | refine Yw eok rfl rfl rfl rfl rfl ?_ ?_ | refine Yn [0, 1, 4, 5, 10, 14, 25] [] mixed eok (by kernel_rfl) True.intro rfl ?_) | refine W_seq ?_ | refine W_region ?_ | refine W_any T.get ?_ | refine W_skip ?_ | refine W_ret ?_ | refine W_block ?_ | refine W_exit ?_ | refine W_cond_t rfl ?_ | refine W_cond_f rfl ?_ | (refine W_cond rfl (fun hc => ?_) (fun hc => ?_) <;> (try simp only [HCl] at hc) <;> (try (exfalso; omega))))
    refine W_loopI (fun k => k ≤ a.length ∧ a.take k = b.take k) (fun k : Nat => ⟨[(0, .d (.is a)), (1, .d (.is b)), (4, .d (.b false)), (5, .d (.i .i64 k))], [], 26⟩) (fun k => a.length - k) 0 ⟨Nat.zero_le _, by simp⟩ ?_ (Nat.le_refl _) ?_
    · exact TSub.cut rfl (by repeat' (first | exact True.intro | refine And.intro (by (first | rfl | ((with_reducible_and_instances refine congrArg (fun z => some (AV.d (D.i _ z))) ?_); omega) | (refine congrArg (fun z => some (AV.d (D.i _ z))) (?_ : (_ : Int) = _); omega) | (refine congrArg some ?_; simp; done))) ?_)) (by repeat' (first | exact True.intro | refine And.intro (Or.inr rfl) ?_ | refine And.intro (Or.inl ⟨rfl, rfl⟩) ?_ | refine And.intro (Or.inr (by simp)) ?_)) (by first | rfl | (simp (decide := true) [heapOk, Blk.ok, AV.oks, AV.ok, hk]; done)) rfl
    rintro k ⟨hk, hpre⟩
    by_cases hkl : k < a.length
    · obtain ⟨x, hx⟩ := get_of hkl
      obtain ⟨y, hy⟩ := get_of (xs := b) (k := k) (by omega)
      have gx : a.getD k 0 = x := by rw [List.getD_eq_getElem?_getD, hx]; rfl
      have gy : b.getD k 0 = y := by rw [List.getD_eq_getElem?_getD, hy]; rfl
      by_cases hxy : x = y
      · have f1 := ne_false hxy
        have nS := And.intro gx (And.intro gy f1)
        repeat' (first | ((with_reducible refine sg ?_); first | with_reducible rfl | ((with_reducible refine fitG ?_); first | kernel_rfl | rfl | (simp [fitT, fitF, nS]; done)) | with_reducible refine andT ?_ ?_ | with_reducible exact Nat.beq_refl _ | with_reducible exact fitsI_u8 _ | ((with_reducible refine decide_eq_true ?_); first | omega | (simp only [SZl, nS]; omega)) | decide | (simp [SZl, slc, allOneD, D.one, allOne, AV.one, nS]; done) | (simp [SZl, nS]; omega)) | ((with_reducible refine gWl ?_); first | (refine Wl_isMv rfl ?_; refine Xmv eok rfl rfl rfl rfl ?_) | refine Xq eok rfl rfl rfl rfl ?_ ?_ | refine Xn [0, 1, 4, 5, 10, 14, 25] rfl ?_) | ((with_reducible refine gWd ?_); first | (refine Wd_isMv rfl ?_; refine Ymv eok rfl rfl (fun _ => rfl) rfl rfl ?_) | refine Yp eok rfl rfl (fun _ => rfl) rfl rfl ?_ ?_ | refine Yq rfl rfl rfl rfl rfl ?_ ?_ | refine Ys rfl rfl rfl rfl ?_ | refine Ya eok rfl rfl rfl rfl rfl rfl ?_ ?_ | refine Yw eok rfl rfl rfl rfl rfl ?_ ?_ | refine Yn [0, 1, 4, 5, 10, 14, 25] [] mixed eok (by kernel_rfl) True.intro rfl ?_) | refine W_seq ?_ | refine W_region ?_ | refine W_any T.get ?_ | refine W_skip ?_ | refine W_ret ?_ | refine W_block ?_ | refine W_exit ?_ | refine W_cond_t rfl ?_ | refine W_cond_f rfl ?_ | (refine W_cond rfl (fun hc => ?_) (fun hc => ?_) <;> (try simp only [HCl] at hc) <;> (try (exfalso; omega))))
        refine ⟨k + 1, ⟨hkl, by rw [List.take_add_one, List.take_add_one, hpre, hx, hy, hxy]⟩, by omega, Nat.le_refl _, ?_⟩
        exact TSub.cut rfl (by repeat' (first | exact True.intro | refine And.intro (by (first | rfl | ((with_reducible_and_instances refine congrArg (fun z => some (AV.d (D.i _ z))) ?_); omega) | (refine congrArg (fun z => some (AV.d (D.i _ z))) (?_ : (_ : Int) = _); omega) | (refine congrArg some ?_; simp; done))) ?_)) (by repeat' (first | exact True.intro | refine And.intro (Or.inr rfl) ?_ | refine And.intro (Or.inl ⟨rfl, rfl⟩) ?_ | refine And.intro (Or.inr (by simp)) ?_)) (by first | rfl | (simp (decide := true) [heapOk, Blk.ok, AV.oks, AV.ok, hk]; done)) rfl
      · have hne : ¬ a = b := fun e => by subst e; rw [hx] at hy; cases hy; exact hxy rfl
        have f1 := ne_true hxy
        have nS := And.intro gx (And.intro gy f1)
        repeat' (first | ((with_reducible refine sg ?_); first | with_reducible rfl | ((with_reducible refine fitG ?_); first | kernel_rfl | rfl | (simp [fitT, fitF, nS]; done)) | with_reducible refine andT ?_ ?_ | with_reducible exact Nat.beq_refl _ | with_reducible exact fitsI_u8 _ | ((with_reducible refine decide_eq_true ?_); first | omega | (simp only [SZl, nS]; omega)) | decide | (simp [SZl, slc, allOneD, D.one, allOne, AV.one, nS]; done) | (simp [SZl, nS]; omega)) | ((with_reducible refine gWl ?_); first | (refine Wl_isMv rfl ?_; refine Xmv eok rfl rfl rfl rfl ?_) | refine Xq eok rfl rfl rfl rfl ?_ ?_ | refine Xn [0, 1, 4, 5, 10, 14, 25] rfl ?_) | ((with_reducible refine gWd ?_); first | (refine Wd_isMv rfl ?_; refine Ymv eok rfl rfl (fun _ => rfl) rfl rfl ?_) | refine Yp eok rfl rfl (fun _ => rfl) rfl rfl ?_ ?_ | refine Yq rfl rfl rfl rfl rfl ?_ ?_ | refine Ys rfl rfl rfl rfl ?_ | refine Ya eok rfl rfl rfl rfl rfl rfl ?_ ?_ | refine Yw eok rfl rfl rfl rfl rfl ?_ ?_ | refine Yn [0, 1, 4, 5, 10, 14, 25] [] mixed eok (by kernel_rfl) True.intro rfl ?_) | refine W_seq ?_ | refine W_region ?_ | refine W_any T.get ?_ | refine W_skip ?_ | refine W_ret ?_ | refine W_block ?_ | refine W_exit ?_ | refine W_cond_t rfl ?_ | refine W_cond_f rfl ?_ | (refine W_cond rfl (fun hc => ?_) (fun hc => ?_) <;> (try simp only [HCl] at hc) <;> (try (exfalso; omega))))
        refine ⟨_, _, rfl, rfl, ?_⟩; simp [Frz_tup, Frz_ag, Frzs_cons, Frzs_nil, Frz_d, Frz_e0, Frz_sl, sln, isSl, slOk, hne]
    · have e : k = a.length := by omega
      subst e
      have hE : a = b := by rw [List.take_length, heq, List.take_length] at hpre; exact hpre
      have nS := True.intro
      repeat' (first | ((with_reducible refine sg ?_); first | with_reducible rfl | ((with_reducible refine fitG ?_); first | kernel_rfl | rfl | (simp [fitT, fitF, nS]; done)) | with_reducible refine andT ?_ ?_ | with_reducible exact Nat.beq_refl _ | with_reducible exact fitsI_u8 _ | ((with_reducible refine decide_eq_true ?_); first | omega | (simp only [SZl, nS]; omega)) | decide | (simp [SZl, slc, allOneD, D.one, allOne, AV.one, nS]; done) | (simp [SZl, nS]; omega)) | ((with_reducible refine gWl ?_); first | (refine Wl_isMv rfl ?_; refine Xmv eok rfl rfl rfl rfl ?_) | refine Xq eok rfl rfl rfl rfl ?_ ?_ | refine Xn [0, 1, 4, 5, 10, 14, 25] rfl ?_) | ((with_reducible refine gWd ?_); first | (refine Wd_isMv rfl ?_; refine Ymv eok rfl rfl (fun _ => rfl) rfl rfl ?_) | refine Yp eok rfl rfl (fun _ => rfl) rfl rfl ?_ ?_ | refine Yq rfl rfl rfl rfl rfl ?_ ?_ | refine Ys rfl rfl rfl rfl ?_ | refine Ya eok rfl rfl rfl rfl rfl rfl ?_ ?_ | refine Yw eok rfl rfl rfl rfl rfl ?_ ?_ | refine Yn [0, 1, 4, 5, 10, 14, 25] [] mixed eok (by kernel_rfl) True.intro rfl ?_) | refine W_seq ?_ | refine W_region ?_ | refine W_any T.get ?_ | refine W_skip ?_ | refine W_ret ?_ | refine W_block ?_ | refine W_exit ?_ | refine W_cond_t rfl ?_ | refine W_cond_f rfl ?_ | (refine W_cond rfl (fun hc => ?_) (fun hc => ?_) <;> (try simp only [HCl] at hc) <;> (try (exfalso; omega))))
      refine ⟨_, _, rfl, rfl, ?_⟩; simp [Frz_tup, Frz_ag, Frzs_cons, Frzs_nil, Frz_d, Frz_e0, Frz_sl, sln, isSl, slOk, hE]
  · have e1 : ((a.length : Int) != (b.length : Int)) = true := ne_true (by omega)
    have hne : ¬ a = b := fun e => heq (by rw [e])
    have nS := e1
    repeat' (first | ((with_reducible refine sg ?_); first | with_reducible rfl | ((with_reducible refine fitG ?_); first | kernel_rfl | rfl | (simp [fitT, fitF, nS]; done)) | with_reducible refine andT ?_ ?_ | with_reducible exact Nat.beq_refl _ | with_reducible exact fitsI_u8 _ | ((with_reducible refine decide_eq_true ?_); first | omega | (simp only [SZl, nS]; omega)) | decide | (simp [SZl, slc, allOneD, D.one, allOne, AV.one, nS]; done) | (simp [SZl, nS]; omega)) | ((with_reducible refine gWl ?_); first | (refine Wl_isMv rfl ?_; refine Xmv eok rfl rfl rfl rfl ?_) | refine Xq eok rfl rfl rfl rfl ?_ ?_ | refine Xn [0, 1, 4, 5, 10, 14, 25] rfl ?_) | ((with_reducible refine gWd ?_); first | (refine Wd_isMv rfl ?_; refine Ymv eok rfl rfl (fun _ => rfl) rfl rfl ?_) | refine Yp eok rfl rfl (fun _ => rfl) rfl rfl ?_ ?_ | refine Yq rfl rfl rfl rfl rfl ?_ ?_ | refine Ys rfl rfl rfl rfl ?_ | refine Ya eok rfl rfl rfl rfl rfl rfl ?_ ?_ | refine Yw eok rfl rfl rfl rfl rfl ?_ ?_ | refine Yn [0, 1, 4, 5, 10, 14, 25] [] mixed eok (by kernel_rfl) True.intro rfl ?_) | refine W_seq ?_ | refine W_region ?_ | refine W_any T.get ?_ | refine W_skip ?_ | refine W_ret ?_ | refine W_block ?_ | refine W_exit ?_ | refine W_cond_t rfl ?_ | refine W_cond_f rfl ?_ | (refine W_cond rfl (fun hc => ?_) (fun hc => ?_) <;> (try simp only [HCl] at hc) <;> (try (exfalso; omega))))
    refine ⟨_, _, rfl, rfl, ?_⟩; simp [Frz_tup, Frz_ag, Frzs_cons, Frzs_nil, Frz_d, Frz_e0, Frz_sl, sln, isSl, slOk, hne]
theorem Equal_fn (a b : List Int) (hl : a.length ≤ 100000) : Go.Gar.Fn Tryd.prog 50 [.is a, .is b] (.b (decide (a = b))) := by
  refine Fn_of_W eok Tryd.func50 rfl rfl (Nat.le_of_ble_eq_true rfl) ?_
  by_cases heq : a.length = b.length
  · have e1 : ((a.length : Int) != (b.length : Int)) = false := ne_false (by omega)
    have nS := e1
    repeat' (first | ((with_reducible refine sg ?_); first | with_reducible rfl | ((with_reducible refine fitG ?_); first | kernel_rfl | rfl | (simp [fitT, fitF, nS]; done)) | with_reducible refine andT ?_ ?_ | with_reducible exact Nat.beq_refl _ | with_reducible exact fitsI_u8 _ | ((with_reducible refine decide_eq_true ?_); first | omega | (simp only [SZl, nS]; omega)) | decide | (simp [SZl, slc, allOneD, D.one, allOne, AV.one, nS]; done) | (simp [SZl, nS]; omega)) | ((with_reducible refine gWl ?_); first | (refine Wl_isMv rfl ?_; refine Xmv eok rfl rfl rfl rfl ?_) | refine Xq eok rfl rfl rfl rfl ?_ ?_ | refine Xn [0, 1, 4, 5, 10, 12, 13, 14, 24] rfl ?_) | ((with_reducible refine gWd ?_); first | (refine Wd_isMv rfl ?_; refine Ymv eok rfl rfl (fun _ => rfl) rfl rfl ?_) | refine Yp eok rfl rfl (fun _ => rfl) rfl rfl ?_ ?_ | refine Yq rfl rfl rfl rfl rfl ?_ ?_ | refine Ys rfl rfl rfl rfl ?_ | refine Ya eok rfl rfl rfl rfl rfl rfl ?_ ?_ | refine Yw eok rfl rfl rfl rfl rfl ?_ ?_ | refine Yn [0, 1, 4, 5, 10, 12, 13, 14, 24] [] mixed eok (by kernel_rfl) True.intro rfl ?_) | refine W_seq ?_ | refine W_region ?_ | refine W_any T.get ?_ | refine W_skip ?_ | refine W_ret ?_ | refine W_block ?_ | refine W_exit ?_ | refine W_cond_t rfl ?_ | refine W_cond_f rfl ?_ | (refine W_cond rfl (fun hc => ?_) (fun hc => ?_) <;> (try simp only [HCl] at hc) <;> (try (exfalso; omega))))
    refine W_loopI (fun k => k ≤ a.length ∧ a.take k = b.take k) (fun k : Nat => ⟨[(0, .d (.is a)), (1, .d (.is b)), (4, .d (.b false)), (12, .d (.i .i64 a.length)), (13, .d (.i .i64 k))], [], 26⟩) (fun k => a.length - k) 0 ⟨Nat.zero_le _, by simp⟩ ?_ (Nat.le_refl _) ?_
    · exact TSub.cut rfl (by repeat' (first | exact True.intro | refine And.intro (by (first | rfl | ((with_reducible_and_instances refine congrArg (fun z => some (AV.d (D.i _ z))) ?_); omega) | (refine congrArg (fun z => some (AV.d (D.i _ z))) (?_ : (_ : Int) = _); omega) | (refine congrArg some ?_; simp; done))) ?_)) (by repeat' (first | exact True.intro | refine And.intro (Or.inr rfl) ?_ | refine And.intro (Or.inl ⟨rfl, rfl⟩) ?_ | refine And.intro (Or.inr (by simp)) ?_)) (by first | rfl | (simp (decide := true) [heapOk, Blk.ok, AV.oks, AV.ok, hk]; done)) rfl
    rintro k ⟨hk, hpre⟩
    by_cases hkl : k < a.length
    · obtain ⟨x, hx⟩ := get_of hkl
      obtain ⟨y, hy⟩ := get_of (xs := b) (k := k) (by omega)
      have gx : a.getD k 0 = x := by rw [List.getD_eq_getElem?_getD, hx]; rfl
      have gy : b.getD k 0 = y := by rw [List.getD_eq_getElem?_getD, hy]; rfl
      by_cases hxy : x = y
      · have f1 := ne_false hxy
        have nS := And.intro gx (And.intro gy f1)
        repeat' (first | ((with_reducible refine sg ?_); first | with_reducible rfl | ((with_reducible refine fitG ?_); first | kernel_rfl | rfl | (simp [fitT, fitF, nS]; done)) | with_reducible refine andT ?_ ?_ | with_reducible exact Nat.beq_refl _ | with_reducible exact fitsI_u8 _ | ((with_reducible refine decide_eq_true ?_); first | omega | (simp only [SZl, nS]; omega)) | decide | (simp [SZl, slc, allOneD, D.one, allOne, AV.one, nS]; done) | (simp [SZl, nS]; omega)) | ((with_reducible refine gWl ?_); first | (refine Wl_isMv rfl ?_; refine Xmv eok rfl rfl rfl rfl ?_) | refine Xq eok rfl rfl rfl rfl ?_ ?_ | refine Xn [0, 1, 4, 5, 10, 12, 13, 14, 24] rfl ?_) | ((with_reducible refine gWd ?_); first | (refine Wd_isMv rfl ?_; refine Ymv eok rfl rfl (fun _ => rfl) rfl rfl ?_) | refine Yp eok rfl rfl (fun _ => rfl) rfl rfl ?_ ?_ | refine Yq rfl rfl rfl rfl rfl ?_ ?_ | refine Ys rfl rfl rfl rfl ?_ | refine Ya eok rfl rfl rfl rfl rfl rfl ?_ ?_ | refine Yw eok rfl rfl rfl rfl rfl ?_ ?_ | refine Yn [0, 1, 4, 5, 10, 12, 13, 14, 24] [] mixed eok (by kernel_rfl) True.intro rfl ?_) | refine W_seq ?_ | refine W_region ?_ | refine W_any T.get ?_ | refine W_skip ?_ | refine W_ret ?_ | refine W_block ?_ | refine W_exit ?_ | refine W_cond_t rfl ?_ | refine W_cond_f rfl ?_ | (refine W_cond rfl (fun hc => ?_) (fun hc => ?_) <;> (try simp only [HCl] at hc) <;> (try (exfalso; omega))))
        refine ⟨k + 1, ⟨hkl, by rw [List.take_add_one, List.take_add_one, hpre, hx, hy, hxy]⟩, by omega, Nat.le_refl _, ?_⟩
        exact TSub.cut rfl (by repeat' (first | exact True.intro | refine And.intro (by (first | rfl | ((with_reducible_and_instances refine congrArg (fun z => some (AV.d (D.i _ z))) ?_); omega) | (refine congrArg (fun z => some (AV.d (D.i _ z))) (?_ : (_ : Int) = _); omega) | (refine congrArg some ?_; simp; done))) ?_)) (by repeat' (first | exact True.intro | refine And.intro (Or.inr rfl) ?_ | refine And.intro (Or.inl ⟨rfl, rfl⟩) ?_ | refine And.intro (Or.inr (by simp)) ?_)) (by first | rfl | (simp (decide := true) [heapOk, Blk.ok, AV.oks, AV.ok, hk]; done)) rfl
      · have hne : ¬ a = b := fun e => by subst e; rw [hx] at hy; cases hy; exact hxy rfl
        have f1 := ne_true hxy
        have nS := And.intro gx (And.intro gy f1)
        repeat' (first | ((with_reducible refine sg ?_); first | with_reducible rfl | ((with_reducible refine fitG ?_); first | kernel_rfl | rfl | (simp [fitT, fitF, nS]; done)) | with_reducible refine andT ?_ ?_ | with_reducible exact Nat.beq_refl _ | with_reducible exact fitsI_u8 _ | ((with_reducible refine decide_eq_true ?_); first | omega | (simp only [SZl, nS]; omega)) | decide | (simp [SZl, slc, allOneD, D.one, allOne, AV.one, nS]; done) | (simp [SZl, nS]; omega)) | ((with_reducible refine gWl ?_); first | (refine Wl_isMv rfl ?_; refine Xmv eok rfl rfl rfl rfl ?_) | refine Xq eok rfl rfl rfl rfl ?_ ?_ | refine Xn [0, 1, 4, 5, 10, 12, 13, 14, 24] rfl ?_) | ((with_reducible refine gWd ?_); first | (refine Wd_isMv rfl ?_; refine Ymv eok rfl rfl (fun _ => rfl) rfl rfl ?_) | refine Yp eok rfl rfl (fun _ => rfl) rfl rfl ?_ ?_ | refine Yq rfl rfl rfl rfl rfl ?_ ?_ | refine Ys rfl rfl rfl rfl ?_ | refine Ya eok rfl rfl rfl rfl rfl rfl ?_ ?_ | refine Yw eok rfl rfl rfl rfl rfl ?_ ?_ | refine Yn [0, 1, 4, 5, 10, 12, 13, 14, 24] [] mixed eok (by kernel_rfl) True.intro rfl ?_) | refine W_seq ?_ | refine W_region ?_ | refine W_any T.get ?_ | refine W_skip ?_ | refine W_ret ?_ | refine W_block ?_ | refine W_exit ?_ | refine W_cond_t rfl ?_ | refine W_cond_f rfl ?_ | (refine W_cond rfl (fun hc => ?_) (fun hc => ?_) <;> (try simp only [HCl] at hc) <;> (try (exfalso; omega))))
        refine ⟨_, _, rfl, rfl, ?_⟩; simp [Frz_tup, Frz_ag, Frzs_cons, Frzs_nil, Frz_d, Frz_e0, Frz_sl, sln, isSl, slOk, hne]
    · have e : k = a.length := by omega
      subst e
      have hE : a = b := by rw [List.take_length, heq, List.take_length] at hpre; exact hpre
      have nS := True.intro
      repeat' (first | ((with_reducible refine sg ?_); first | with_reducible rfl | ((with_reducible refine fitG ?_); first | kernel_rfl | rfl | (simp [fitT, fitF, nS]; done)) | with_reducible refine andT ?_ ?_ | with_reducible exact Nat.beq_refl _ | with_reducible exact fitsI_u8 _ | ((with_reducible refine decide_eq_true ?_); first | omega | (simp only [SZl, nS]; omega)) | decide | (simp [SZl, slc, allOneD, D.one, allOne, AV.one, nS]; done) | (simp [SZl, nS]; omega)) | ((with_reducible refine gWl ?_); first | (refine Wl_isMv rfl ?_; refine Xmv eok rfl rfl rfl rfl ?_) | refine Xq eok rfl rfl rfl rfl ?_ ?_ | refine Xn [0, 1, 4, 5, 10, 12, 13, 14, 24] rfl ?_) | ((with_reducible refine gWd ?_); first | (refine Wd_isMv rfl ?_; refine Ymv eok rfl rfl (fun _ => rfl) rfl rfl ?_) | refine Yp eok rfl rfl (fun _ => rfl) rfl rfl ?_ ?_ | refine Yq rfl rfl rfl rfl rfl ?_ ?_ | refine Ys rfl rfl rfl rfl ?_ | refine Ya eok rfl rfl rfl rfl rfl rfl ?_ ?_ | refine Yw eok rfl rfl rfl rfl rfl ?_ ?_ | refine Yn [0, 1, 4, 5, 10, 12, 13, 14, 24] [] mixed eok (by kernel_rfl) True.intro rfl ?_) | refine W_seq ?_ | refine W_region ?_ | refine W_any T.get ?_ | refine W_skip ?_ | refine W_ret ?_ | refine W_block ?_ | refine W_exit ?_ | refine W_cond_t rfl ?_ | refine W_cond_f rfl ?_ | (refine W_cond rfl (fun hc => ?_) (fun hc => ?_) <;> (try simp only [HCl] at hc) <;> (try (exfalso; omega))))
      refine ⟨_, _, rfl, rfl, ?_⟩; simp [Frz_tup, Frz_ag, Frzs_cons, Frzs_nil, Frz_d, Frz_e0, Frz_sl, sln, isSl, slOk, hE]
  · have e1 : ((a.length : Int) != (b.length : Int)) = true := ne_true (by omega)
    have hne : ¬ a = b := fun e => heq (by rw [e])
    have nS := e1
    repeat' (first | ((with_reducible refine sg ?_); first | with_reducible rfl | ((with_reducible refine fitG ?_); first | kernel_rfl | rfl | (simp [fitT, fitF, nS]; done)) | with_reducible refine andT ?_ ?_ | with_reducible exact Nat.beq_refl _ | with_reducible exact fitsI_u8 _ | ((with_reducible refine decide_eq_true ?_); first | omega | (simp only [SZl, nS]; omega)) | decide | (simp [SZl, slc, allOneD, D.one, allOne, AV.one, nS]; done) | (simp [SZl, nS]; omega)) | ((with_reducible refine gWl ?_); first | (refine Wl_isMv rfl ?_; refine Xmv eok rfl rfl rfl rfl ?_) | refine Xq eok rfl rfl rfl rfl ?_ ?_ | refine Xn [0, 1, 4, 5, 10, 12, 13, 14, 24] rfl ?_) | ((with_reducible refine gWd ?_); first | (refine Wd_isMv rfl ?_; refine Ymv eok rfl rfl (fun _ => rfl) rfl rfl ?_) | refine Yp eok rfl rfl (fun _ => rfl) rfl rfl ?_ ?_ | refine Yq rfl rfl rfl rfl rfl ?_ ?_ | refine Ys rfl rfl rfl rfl ?_ | refine Ya eok rfl rfl rfl rfl rfl rfl ?_ ?_ | refine Yw eok rfl rfl rfl rfl rfl ?_ ?_ | refine Yn [0, 1, 4, 5, 10, 12, 13, 14, 24] [] mixed eok (by kernel_rfl) True.intro rfl ?_) | refine W_seq ?_ | refine W_region ?_ | refine W_any T.get ?_ | refine W_skip ?_ | refine W_ret ?_ | refine W_block ?_ | refine W_exit ?_ | refine W_cond_t rfl ?_ | refine W_cond_f rfl ?_ | (refine W_cond rfl (fun hc => ?_) (fun hc => ?_) <;> (try simp only [HCl] at hc) <;> (try (exfalso; omega))))
    refine ⟨_, _, rfl, rfl, ?_⟩; simp [Frz_tup, Frz_ag, Frzs_cons, Frzs_nil, Frz_d, Frz_e0, Frz_sl, sln, isSl, slOk, hne]
end Go.Proofs.YtjiejhikjlhchaaDoor
