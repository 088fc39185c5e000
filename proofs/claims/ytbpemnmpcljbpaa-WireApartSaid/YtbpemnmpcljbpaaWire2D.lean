/- Written by a program (pre.py) from the source of the same name. -/
/- Datagrams: the law Back. -/
import Derived.Test.YtbpemnmpcljbpaaWire2C
import Derived.Test.YtbpemnmpcljbpaaFwE
set_option linter.unusedSimpArgs false
set_option linter.unusedVariables false
set_option linter.unnecessarySimpa false
namespace Go.Proofs.Ytbpemnmpcljbpaa
namespace Wi
open Go.Gar
set_option maxRecDepth 4000

theorem xor_tab : ∀ (d : Fin 256) (k : Fin 8), bitsI .xor .u8 (d.1 : Int) ((128 : Int).fdiv (2 ^ min k.1 8)) = ((UInt8.ofNat d.1 ^^^ UInt8.ofNat (128 / 2 ^ k.1)).toNat : Int) := by decide +kernel
theorem xor_at (d : UInt8) (j : Nat) : bitsI .xor .u8 (d.toNat : Int) ((128 : Int).fdiv (2 ^ min ((j : Int).tmod 8).toNat 8)) = ((d ^^^ UInt8.ofNat (128 / 2 ^ (j % 8))).toNat : Int) := by
  have h := xor_tab ⟨d.toNat, d.toNat_lt⟩ ⟨j % 8, by omega⟩
  have e : ((j : Int).tmod 8).toNat = j % 8 := by
    rw [Int.tmod_eq_emod_of_nonneg (by omega)]; omega
  rw [e]
  simpa using h
theorem bit_by (by_ i : Nat) (hi : i < 32) : (bitsI .and .u32 ((by_ : Int).fdiv (2 ^ min i 32)) 1 == 1) = by_.testBit i := by
  have e : ((by_ : Int).fdiv (2 ^ min i 32)) = ((by_ / 2 ^ i : Nat) : Int) := by
    rw [Nat.min_eq_left (by omega), Int.fdiv_eq_ediv_of_nonneg _ (Int.le_of_lt (Int.pow_pos (by decide)))]
    rw [show (2 : Int) ^ i = ((2 ^ i : Nat) : Int) by simp]
    exact (Int.natCast_ediv _ _).symm
  rw [e]
  unfold bitsI
  show (IntKind.wrap .u32 ((BitVec.ofInt 32 ((by_ / 2 ^ i : Nat) : Int) &&& BitVec.ofInt 32 1).toNat : Int) == 1) = _
  rw [BitVec.ofInt_natCast, show BitVec.ofInt 32 1 = 1#32 from by decide, BitVec.toNat_and, BitVec.toNat_ofNat, show (1#32).toNat = 1 from rfl, Nat.and_one_is_mod]
  have h2 : by_ / 2 ^ i % 2 ^ 32 % 2 = by_ / 2 ^ i % 2 := Nat.mod_mod_of_dvd _ (by decide)
  rw [h2, Nat.testBit_eq_decide_div_mod_eq]
  have h3 : by_ / 2 ^ i % 2 = 0 ∨ by_ / 2 ^ i % 2 = 1 := by omega
  rcases h3 with h3 | h3 <;> rw [h3] <;> rfl
set_option maxHeartbeats 16000000 in
theorem back_fn (m : Msg) (hm : m.list.length < 9223372036854775807) (at_ : Int) (hat : -9223372036854775808 ≤ at_ ∧ at_ ≤ 9223372036854775807) (by_ : Nat) (hby : by_ < 2 ^ 32) : Go.Gar.Fn Try.prog 3 [m.d, .i .i64 at_, .i .u32 by_] (.b true) := by
  have hw := wakes7_fn
  have hM := Most_fn
  have g1 := great_fn m
  have r1 := rRight_fn m hm
  have p1 := Put_fn m hm
  have hP := Payload_fn m hm
  have hS := rSame_fn m m hm
  rw [decide_eq_true rfl] at hS
  refine Fn_of_W eok Try.func3 rfl rfl (Nat.le_of_ble_eq_true rfl) ?_
  cases hy : greatM m with
  | true =>
    rw [hy] at g1
    unfold Msg.d Msg.cells at *
    have nS := True.intro
    repeat' (first | ((with_reducible refine sg ?_); first | with_reducible rfl | ((with_reducible refine fitG ?_); first | kernel_rfl | rfl | (simp [fitT, fitF, nS]; done)) | with_reducible refine andT ?_ ?_ | with_reducible exact Nat.beq_refl _ | with_reducible exact fitsI_u8 _ | ((with_reducible refine decide_eq_true ?_); first | omega | (simp only [SZl, nS]; omega)) | decide | (simp [SZl, slc, allOneD, D.one, allOne, AV.one, nS]; done) | (simp [SZl, nS]; omega)) | ((with_reducible refine gWl ?_); first | (refine Wl_isMv rfl ?_; refine Xmv eok rfl rfl rfl rfl ?_) | refine Xq eok rfl rfl rfl rfl ?_ ?_ | refine Xn [0, 1, 2, 3, 6, 7, 8, 9, 10, 11, 12, 13, 14, 15, 17, 19, 28, 78, 94, 102] rfl ?_ | refine XF (hw) rfl rfl rfl rfl ?_ | refine XF (g1) rfl rfl rfl rfl ?_ | refine Xa eok rfl rfl rfl rfl rfl ?_ ?_ | refine Xw eok rfl rfl rfl rfl ?_ ?_ | refine Xs rfl rfl rfl ?_ | (refine Xsplit rfl rfl (fun hc => ?_) (fun hc => ?_) <;> (fail_if_success (with_reducible first | exact tF hc | exact fT hc)) <;> (try simp only [HCl] at hc) <;> (try (exfalso; omega)))) | refine W_seq ?_ | refine W_region ?_ | refine W_skip ?_ | refine W_ret ?_ | refine W_block ?_ | refine W_exit ?_ | refine W_cond_t rfl ?_ | refine W_cond_f rfl ?_ | (refine W_cond rfl (fun hc => ?_) (fun hc => ?_) <;> (try simp only [HCl] at hc) <;> (try (exfalso; omega))))
    refine ⟨_, _, rfl, rfl, ?_⟩; simp [Frz_tup, Frz_ag, Frzs_cons, Frzs_nil, Frz_d, Frz_e0, Frz_sl, sln, isSl, slOk]
  | false =>
  rw [hy] at g1
  cases hr : m.right with
  | false =>
    rw [hr] at r1
    have e : putM m = ([], 2) := by unfold putM; rw [hr]; rfl
    rw [e] at p1
    unfold Msg.d Msg.cells at *
    have nS := True.intro
    repeat' (first | ((with_reducible refine sg ?_); first | with_reducible rfl | ((with_reducible refine fitG ?_); first | kernel_rfl | rfl | (simp [fitT, fitF, nS]; done)) | with_reducible refine andT ?_ ?_ | with_reducible exact Nat.beq_refl _ | with_reducible exact fitsI_u8 _ | ((with_reducible refine decide_eq_true ?_); first | omega | (simp only [SZl, nS]; omega)) | decide | (simp [SZl, slc, allOneD, D.one, allOne, AV.one, nS]; done) | (simp [SZl, nS]; omega)) | ((with_reducible refine gWl ?_); first | (refine Wl_isMv rfl ?_; refine Xmv eok rfl rfl rfl rfl ?_) | refine Xq eok rfl rfl rfl rfl ?_ ?_ | refine Xn [0, 1, 2, 3, 6, 7, 8, 9, 10, 11, 12, 13, 14, 15, 17, 19, 28, 78, 94, 102] rfl ?_ | refine XF (hw) rfl rfl rfl rfl ?_ | refine XF (g1) rfl rfl rfl rfl ?_ | refine XF (r1) rfl rfl rfl rfl ?_ | refine XF (p1) rfl rfl rfl rfl ?_ | refine Xa eok rfl rfl rfl rfl rfl ?_ ?_ | refine Xw eok rfl rfl rfl rfl ?_ ?_ | refine Xs rfl rfl rfl ?_ | (refine Xsplit rfl rfl (fun hc => ?_) (fun hc => ?_) <;> (fail_if_success (with_reducible first | exact tF hc | exact fT hc)) <;> (try simp only [HCl] at hc) <;> (try (exfalso; omega)))) | refine W_seq ?_ | refine W_region ?_ | refine W_skip ?_ | refine W_ret ?_ | refine W_block ?_ | refine W_exit ?_ | refine W_cond_t rfl ?_ | refine W_cond_f rfl ?_ | (refine W_cond rfl (fun hc => ?_) (fun hc => ?_) <;> (try simp only [HCl] at hc) <;> (try (exfalso; omega))))
    refine ⟨_, _, rfl, rfl, ?_⟩; simp [Frz_tup, Frz_ag, Frzs_cons, Frzs_nil, Frz_d, Frz_e0, Frz_sl, sln, isSl, slOk]
  | true =>
  rw [hr] at r1
  have hl := payB_len hr
  have hlb : (closeV (payB m)).1.length = (payB m).length + 8 := by rw [closeV_ok (by omega)]; simp [hdr_len, be4_len]; omega
  have e1 : payS m = (payB m, 0) := by unfold payS; rw [if_pos hr]
  have hT := Take_fn (closeV (payB m)).1 (by omega)
  have hno : ∀ a n, a + 32 ≤ 8 * (closeV (payB m)).1.length → n < 2 ^ 32 → (takeM (burst (closeV (payB m)).1 a n 32)).2 = 0 → n = 0 := by
    intro a n ha hn h0
    rcases takeM_cases (burst (closeV (payB m)).1 a n 32) with ⟨m', h1, h2, h3, h4⟩ | ⟨h1, _⟩ | ⟨h1, _⟩
    · rw [putM_ok h2] at h3
      have := payB_len h2
      exact burst_no (p := payB m) (q := payB m') (by omega) (by omega) a n ha hn (Prod.mk.inj h3).1
    · rw [h1] at h0; exact absurd h0 (by decide)
    · rw [h1] at h0; exact absurd h0 (by decide)
  have hyes : ∀ a, (takeM (burst (closeV (payB m)).1 a 0 32)).2 = 0 := by
    intro a
    rw [burst_zero, take_put hr]
  rw [putM_ok hr] at p1
  rw [e1] at hP
  rw [take_put hr] at hT
  generalize (closeV (payB m)).1 = B at *
  generalize payB m = P at *
  clear hr hy e1
  obtain ⟨k, c, s, d, ky, sl, dn, pl, pr, l, ⟨ik, iv, ir, ig⟩, co⟩ := m
  unfold Msg.d Msg.cells at *
  have f1 : ((B.length : Int) != (P.length : Int) + 8) = false := ne_false (by omega)
  obtain ⟨A, hA, hA2⟩ : ∃ A : Nat, (at_.tmod (8 * (B.length : Int) - 31) + (8 * (B.length : Int) - 31)).tmod (8 * (B.length : Int) - 31) = (A : Int) ∧ A + 32 ≤ 8 * B.length := by
    have hN : 0 < 8 * (B.length : Int) - 31 := by omega
    have h1 := Int.lt_tmod_of_pos at_ hN
    refine ⟨((at_.tmod (8 * (B.length : Int) - 31) + (8 * (B.length : Int) - 31)).tmod (8 * (B.length : Int) - 31)).toNat, ?_, ?_⟩
    · have := Int.tmod_nonneg (8 * (B.length : Int) - 31) (show 0 ≤ at_.tmod (8 * (B.length : Int) - 31) + (8 * (B.length : Int) - 31) by omega)
      omega
    · have := Int.tmod_lt_of_pos (at_.tmod (8 * (B.length : Int) - 31) + (8 * (B.length : Int) - 31)) hN
      omega
  have hb1 := Int.lt_tmod_of_pos at_ (show 0 < 8 * (B.length : Int) - 31 by omega)
  have hb2 := Int.tmod_lt_of_pos at_ (show 0 < 8 * (B.length : Int) - 31 by omega)
  have nS := And.intro f1 hA
  repeat' (first | ((with_reducible refine sg ?_); first | with_reducible rfl | ((with_reducible refine fitG ?_); first | kernel_rfl | rfl | (simp [fitT, fitF, nS]; done)) | with_reducible refine andT ?_ ?_ | with_reducible exact Nat.beq_refl _ | with_reducible exact fitsI_u8 _ | ((with_reducible refine decide_eq_true ?_); first | omega | (simp only [SZl, nS]; omega)) | decide | (simp [SZl, slc, allOneD, D.one, allOne, AV.one, nS]; done) | (simp [SZl, nS]; omega)) | ((with_reducible refine gWl ?_); first | (refine Wl_isMv rfl ?_; refine Xmv eok rfl rfl rfl rfl ?_) | refine XaoL [92] eok rfl rfl rfl rfl rfl rfl ?_ ?_ | refine Xq eok rfl rfl rfl rfl ?_ ?_ | refine Xn [0, 1, 2, 3, 6, 7, 8, 9, 10, 11, 12, 13, 14, 15, 17, 19, 28, 78, 94, 102] rfl ?_ | refine XF (hw) rfl rfl rfl rfl ?_ | refine XF (hM) rfl rfl rfl rfl ?_ | refine XF (g1) rfl rfl rfl rfl ?_ | refine XF (r1) rfl rfl rfl rfl ?_ | refine XF (p1) rfl rfl rfl rfl ?_ | refine XF (hT) rfl rfl rfl rfl ?_ | refine XF (hP) rfl rfl rfl rfl ?_ | refine XF (hS) rfl rfl rfl rfl ?_ | refine Xa eok rfl rfl rfl rfl rfl ?_ ?_ | refine Xw eok rfl rfl rfl rfl ?_ ?_ | refine Xs rfl rfl rfl ?_ | (refine Xsplit rfl rfl (fun hc => ?_) (fun hc => ?_) <;> (fail_if_success (with_reducible first | exact tF hc | exact fT hc)) <;> (try simp only [HCl] at hc) <;> (try (exfalso; omega)))) | refine W_seq ?_ | refine W_region ?_ | refine W_skip ?_ | refine W_ret ?_ | refine W_block ?_ | refine W_exit ?_ | refine W_cond_t rfl ?_ | refine W_cond_f rfl ?_ | (refine W_cond rfl (fun hc => ?_) (fun hc => ?_) <;> (try simp only [HCl] at hc) <;> (try (exfalso; omega))))
  clear hw hM g1 r1 p1 hT hP hS f1
  refine W_loopI (fun k => k ≤ 32) (fun k : Nat => ⟨[(1, .d (.i .i64 A)), (2, .d (.i .u32 by_)), (14, .sl 2 (burst B A by_ k).length 1), (15, .d (.i .i64 k))], [.gone, .gone, .a (.by (burst B A by_ k))], 136⟩) (fun k => 32 - k) 0 (Nat.zero_le _) ?_ (Nat.le_refl _) ?_
  · exact TSub.cut rfl (by repeat' (first | exact True.intro | refine And.intro (by (first | rfl | ((with_reducible_and_instances refine congrArg (fun z => some (AV.d (D.i _ z))) ?_); omega) | (refine congrArg (fun z => some (AV.d (D.i _ z))) (?_ : (_ : Int) = _); omega) | (refine congrArg some ?_; simp only [burst]; done) | (refine congrArg some ?_; simp [burst]; done))) ?_)) (by repeat' (first | exact True.intro | refine And.intro (Or.inr rfl) ?_ | refine And.intro (Or.inl ⟨rfl, rfl⟩) ?_ | refine And.intro (Or.inr (by simp only [burst])) ?_ | refine And.intro (Or.inr (by simp [burst])) ?_)) (by first | rfl | (simp (decide := true) [heapOk, Blk.ok, AV.oks, AV.ok, hk]; done)) rfl
  intro k hk
  have hbl := burst_len B A by_ k
  by_cases hk32 : k < 32
  · have fb : (bitsI .and .u32 ((by_ : Int).fdiv (2 ^ min k IntKind.u32.bits)) 1 == 1) = by_.testBit k := bit_by by_ k hk32
    have hd := ((burst B A by_ k).getD ((A + k) / 8) 0 ^^^ UInt8.ofNat (128 / 2 ^ ((A + k) % 8))).toNat_lt
    have e8 : ((A : Int) + (k : Int)).tdiv 8 = (((A + k) / 8 : Nat) : Int) := by
      rw [Int.tdiv_eq_ediv_of_nonneg (by omega)]; omega
    have hx := xor_at ((burst B A by_ k).getD ((A + k) / 8) 0) (A + k)
    rw [show (((A + k : Nat) : Int)) = (A : Int) + (k : Int) by omega] at hx
    have hmod : ((A : Int) + (k : Int)).tmod 8 % 18446744073709551616 = ((A : Int) + (k : Int)).tmod 8 := by
      rw [Int.tmod_eq_emod_of_nonneg (by omega)]; omega
    have hk64 : (k : Int) % 18446744073709551616 = k := by omega
    have hlt : (A + k) / 8 < (burst B A by_ k).length := by rw [hbl]; omega
    have hsl : (slc (.by (burst B A by_ k))).getD ((A + k) / 8 * 1) .np = .i .u8 (((burst B A by_ k).getD ((A + k) / 8) 0).toNat : Int) := by
      simp only [slc, Nat.mul_one, List.getD_eq_getElem?_getD, List.getElem?_map, List.getElem?_eq_getElem hlt, Option.map_some, Option.getD_some]
    cases hbit : by_.testBit k with
    | false =>
      rw [hbit] at fb
      have nS := And.intro fb (And.intro e8 (And.intro hsl (And.intro hx (And.intro hmod hk64))))
      repeat' (first | ((with_reducible refine sg ?_); first | with_reducible rfl | ((with_reducible refine fitG ?_); first | kernel_rfl | rfl | (simp [fitT, fitF, nS]; done)) | with_reducible refine andT ?_ ?_ | with_reducible exact Nat.beq_refl _ | with_reducible exact fitsI_u8 _ | ((with_reducible refine decide_eq_true ?_); first | omega | (simp only [SZl, nS]; omega)) | decide | (simp [SZl, slc, allOneD, D.one, allOne, AV.one, nS]; done) | (simp [SZl, nS]; omega)) | ((with_reducible refine gWl ?_); first | (refine Wl_isMv rfl ?_; refine Xmv eok rfl rfl rfl rfl ?_) | refine Xq eok rfl rfl rfl rfl ?_ ?_ | refine Xn [0, 1, 2, 3, 6, 7, 8, 9, 10, 11, 12, 13, 14, 15, 17, 19, 28, 78, 94, 102] rfl ?_ | refine Xa eok rfl rfl rfl rfl rfl ?_ ?_ | refine Xw eok rfl rfl rfl rfl ?_ ?_ | refine Xsb eok rfl rfl rfl rfl ?_ ?_ | refine Xs rfl rfl rfl ?_ | (refine Xsplit rfl rfl (fun hc => ?_) (fun hc => ?_) <;> (fail_if_success (with_reducible first | exact tF hc | exact fT hc)) <;> (try simp only [HCl] at hc) <;> (try (exfalso; omega)))) | refine W_seq ?_ | refine W_region ?_ | refine W_skip ?_ | refine W_ret ?_ | refine W_block ?_ | refine W_exit ?_ | refine W_cond_t rfl ?_ | refine W_cond_f rfl ?_ | (refine W_cond rfl (fun hc => ?_) (fun hc => ?_) <;> (try simp only [HCl] at hc) <;> (try (exfalso; omega))))
      refine ⟨k + 1, hk32, by omega, Nat.le_refl _, ?_⟩
      have e : burst B A by_ (k + 1) = burst B A by_ k := by show (if _ then _ else _) = _; rw [hbit]; rfl
      exact TSub.cut rfl (by repeat' (first | exact True.intro | refine And.intro (by (first | rfl | ((with_reducible_and_instances refine congrArg (fun z => some (AV.d (D.i _ z))) ?_); omega) | (refine congrArg (fun z => some (AV.d (D.i _ z))) (?_ : (_ : Int) = _); omega) | (refine congrArg some ?_; simp only [e]; done) | (refine congrArg some ?_; simp [e]; done))) ?_)) (by repeat' (first | exact True.intro | refine And.intro (Or.inr rfl) ?_ | refine And.intro (Or.inl ⟨rfl, rfl⟩) ?_ | refine And.intro (Or.inr (by simp only [e])) ?_ | refine And.intro (Or.inr (by simp [e])) ?_)) (by first | rfl | (simp (decide := true) [heapOk, Blk.ok, AV.oks, AV.ok, hk]; done)) rfl
    | true =>
      rw [hbit] at fb
      have nS := And.intro fb (And.intro e8 (And.intro hsl (And.intro hx (And.intro hmod hk64))))
      repeat' (first | ((with_reducible refine sg ?_); first | with_reducible rfl | ((with_reducible refine fitG ?_); first | kernel_rfl | rfl | (simp [fitT, fitF, nS]; done)) | with_reducible refine andT ?_ ?_ | with_reducible exact Nat.beq_refl _ | with_reducible exact fitsI_u8 _ | ((with_reducible refine decide_eq_true ?_); first | omega | (simp only [SZl, nS]; omega)) | decide | (simp [SZl, slc, allOneD, D.one, allOne, AV.one, nS]; done) | (simp [SZl, nS]; omega)) | ((with_reducible refine gWl ?_); first | (refine Wl_isMv rfl ?_; refine Xmv eok rfl rfl rfl rfl ?_) | refine Xq eok rfl rfl rfl rfl ?_ ?_ | refine Xn [0, 1, 2, 3, 6, 7, 8, 9, 10, 11, 12, 13, 14, 15, 17, 19, 28, 78, 94, 102] rfl ?_ | refine Xa eok rfl rfl rfl rfl rfl ?_ ?_ | refine Xw eok rfl rfl rfl rfl ?_ ?_ | refine Xsb eok rfl rfl rfl rfl ?_ ?_ | refine Xs rfl rfl rfl ?_ | (refine Xsplit rfl rfl (fun hc => ?_) (fun hc => ?_) <;> (fail_if_success (with_reducible first | exact tF hc | exact fT hc)) <;> (try simp only [HCl] at hc) <;> (try (exfalso; omega)))) | refine W_seq ?_ | refine W_region ?_ | refine W_skip ?_ | refine W_ret ?_ | refine W_block ?_ | refine W_exit ?_ | refine W_cond_t rfl ?_ | refine W_cond_f rfl ?_ | (refine W_cond rfl (fun hc => ?_) (fun hc => ?_) <;> (try simp only [HCl] at hc) <;> (try (exfalso; omega))))
      refine ⟨k + 1, hk32, by omega, Nat.le_refl _, ?_⟩
      have e : burst B A by_ (k + 1) = flip (burst B A by_ k) (A + k) := by show (if _ then _ else _) = _; rw [hbit]; rfl
      have e2 : (burst B A by_ (k + 1)).length = (burst B A by_ k).length := by rw [burst_len, burst_len]
      have e3 : (burst B A by_ k).set ((A + k) / 8) (UInt8.ofNat ((((burst B A by_ k).getD ((A + k) / 8) 0 ^^^ UInt8.ofNat (128 / 2 ^ ((A + k) % 8))).toNat : Int)).toNat) = burst B A by_ (k + 1) := by
        rw [e, ofNat_toNat]; rfl
      exact TSub.cut rfl (by repeat' (first | exact True.intro | refine And.intro (by (first | rfl | ((with_reducible_and_instances refine congrArg (fun z => some (AV.d (D.i _ z))) ?_); omega) | (refine congrArg (fun z => some (AV.d (D.i _ z))) (?_ : (_ : Int) = _); omega) | (refine congrArg some ?_; simp only [e2, e3]; done) | (refine congrArg some ?_; simp [e2, e3]; done))) ?_)) (by repeat' (first | exact True.intro | refine And.intro (Or.inr rfl) ?_ | refine And.intro (Or.inl ⟨rfl, rfl⟩) ?_ | refine And.intro (Or.inr (by simp only [e2, e3])) ?_ | refine And.intro (Or.inr (by simp [e2, e3])) ?_)) (by first | rfl | (simp (decide := true) [heapOk, Blk.ok, AV.oks, AV.ok, hk]; done)) rfl
  · have e32 : k = 32 := by omega
    subst e32
    have hT2 := Take_fn (burst B A by_ 32) (by omega)
    have hw := wakes7_fn
    have hq : ((takeM (burst B A by_ 32)).2 == 0) = ((by_ : Int) == 0) := by
      by_cases h0 : by_ = 0
      · subst h0; rw [hyes A]; rfl
      · have h1 : (takeM (burst B A by_ 32)).2 ≠ 0 := fun h => h0 (hno A by_ hA2 hby h)
        rw [eq_false' h1, eq_false' (by omega)]
    have f : (((takeM (burst B A by_ 32)).2 == 0) == ((by_ : Int) == 0)) = true := by rw [hq]; simp
    unfold Msg.d Msg.cells at hT2
    have nS := f
    repeat' (first | ((with_reducible refine sg ?_); first | with_reducible rfl | ((with_reducible refine fitG ?_); first | kernel_rfl | rfl | (simp [fitT, fitF, nS]; done)) | with_reducible refine andT ?_ ?_ | with_reducible exact Nat.beq_refl _ | with_reducible exact fitsI_u8 _ | ((with_reducible refine decide_eq_true ?_); first | omega | (simp only [SZl, nS]; omega)) | decide | (simp [SZl, slc, allOneD, D.one, allOne, AV.one, nS]; done) | (simp [SZl, nS]; omega)) | ((with_reducible refine gWl ?_); first | (refine Wl_isMv rfl ?_; refine Xmv eok rfl rfl rfl rfl ?_) | refine Xq eok rfl rfl rfl rfl ?_ ?_ | refine Xn [0, 1, 2, 3, 6, 7, 8, 9, 10, 11, 12, 13, 14, 15, 17, 19, 28, 78, 94, 102] rfl ?_ | refine Xfz 124 rfl rfl rfl (by first | rfl | simp [sln]) ?_ | refine XF (hw) rfl rfl rfl rfl ?_ | refine XF (hT2) rfl rfl rfl rfl ?_ | refine Xa eok rfl rfl rfl rfl rfl ?_ ?_ | refine Xw eok rfl rfl rfl rfl ?_ ?_ | refine Xs rfl rfl rfl ?_ | (refine Xsplit rfl rfl (fun hc => ?_) (fun hc => ?_) <;> (fail_if_success (with_reducible first | exact tF hc | exact fT hc)) <;> (try simp only [HCl] at hc) <;> (try (exfalso; omega)))) | refine W_seq ?_ | refine W_region ?_ | refine W_skip ?_ | refine W_ret ?_ | refine W_block ?_ | refine W_exit ?_ | refine W_cond_t rfl ?_ | refine W_cond_f rfl ?_ | (refine W_cond rfl (fun hc => ?_) (fun hc => ?_) <;> (try simp only [HCl] at hc) <;> (try (exfalso; omega))))
    refine ⟨_, _, rfl, rfl, ?_⟩; simp [Frz_tup, Frz_ag, Frzs_cons, Frzs_nil, Frz_d, Frz_e0, Frz_sl, sln, isSl, slOk]
end Wi
end Go.Proofs.Ytbpemnmpcljbpaa
