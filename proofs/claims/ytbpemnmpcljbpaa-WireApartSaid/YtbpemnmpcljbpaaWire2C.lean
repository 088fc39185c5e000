/- Written by a program (pre.py) from the source of the same name. -/
/- Datagrams: the laws Only, Payloads, Apart. -/
import Derived.Test.YtbpemnmpcljbpaaWire2B
import Derived.Test.YtbpemnmpcljbpaaFwE
set_option linter.unusedSimpArgs false
set_option linter.unusedVariables false
set_option linter.unnecessarySimpa false
namespace Go.Proofs.Ytbpemnmpcljbpaa
namespace Wi
open Go.Gar
set_option maxRecDepth 4000

theorem takeM_cases (b : List UInt8) : (∃ m, takeM b = (m, 0) ∧ m.right = true ∧ putM m = (b, 0) ∧ m.list.length ≤ 3) ∨ (takeM b = (zeroM, 11) ∧ b.length < 8) ∨ (takeM b = (zeroM, 12) ∧ 8 ≤ b.length) := by
  rcases open_get (b := b) (p := (openC b).1) (e := (openC b).2) rfl with ⟨h1, h2, h3⟩ | ⟨h1, h2, h3⟩ | ⟨h1, h2, h3⟩
  · have e : takeM b = readS (openC b).1 := if_pos h1
    rcases read_get (b := (openC b).1) (m := (readS (openC b).1).1) (e := (readS (openC b).1).2) rfl with ⟨g1, g2, g3⟩ | ⟨g1, g2⟩
    · refine .inl ⟨(readS (openC b).1).1, ?_, g2, ?_, ?_⟩
      · rw [e, ← g1]
      · rw [putM_ok g2, g3, h3]
      · obtain ⟨_, _, _, _, hb, hh⟩ := right_t g2
        generalize (readS (openC b).1).1 = m at *
        unfold Msg.has at hh
        by_cases h7 : m.kind = 7
        · simp only [h7, Int.reduceEq, if_false, if_true, Bool.and_eq_true] at hh
          exact (okList_t hh.2).1
        · have : m.bare.list = m.list := by
            unfold Msg.bare
            simp only [h7, if_false]
            repeat' split
            all_goals rfl
          rw [← this, hb]
          exact Nat.zero_le _
    · refine .inr (.inr ⟨?_, ?_⟩)
      · rw [e, ← g1, ← g2]
      · rw [← h3, closeV_ok h2]; simp [hdr_len, be4_len]; omega
  · exact .inr (.inl ⟨by unfold takeM; rw [if_neg (by omega), h1], h2⟩)
  · exact .inr (.inr ⟨by unfold takeM; rw [if_neg (by omega), h1], h2⟩)
theorem takeM_put {m : Msg} (h : m.right = true) : takeM (putM m).1 = (m, 0) := by
  rw [putM_ok h]; exact take_put h
theorem only_fn (b : List UInt8) : Go.Gar.Fn Try.prog 4 [.by b] (.b true) := by
  have hw := wakes7_fn
  refine Fn_of_W eok Try.func4 rfl rfl (Nat.le_of_ble_eq_true rfl) ?_
  by_cases hl : b.length > 300
  · have nS := True.intro
    repeat' (first | ((with_reducible refine sg ?_); first | with_reducible rfl | ((with_reducible refine fitG ?_); first | kernel_rfl | rfl | (simp [fitT, fitF, nS]; done)) | with_reducible refine andT ?_ ?_ | with_reducible exact Nat.beq_refl _ | with_reducible exact fitsI_u8 _ | ((with_reducible refine decide_eq_true ?_); first | omega | (simp only [SZl, nS]; omega)) | decide | (simp [SZl, slc, allOneD, D.one, allOne, AV.one, nS]; done) | (simp [SZl, nS]; omega)) | ((with_reducible refine gWl ?_); first | (refine Wl_isMv rfl ?_; refine Xmv eok rfl rfl rfl rfl ?_) | refine Xq eok rfl rfl rfl rfl ?_ ?_ | refine Xn [0, 2, 3, 4, 5, 6, 9, 17] rfl ?_ | refine XF (hw) rfl rfl rfl rfl ?_ | refine Xa eok rfl rfl rfl rfl rfl ?_ ?_ | refine Xw eok rfl rfl rfl rfl ?_ ?_ | refine Xs rfl rfl rfl ?_ | (refine Xsplit rfl rfl (fun hc => ?_) (fun hc => ?_) <;> (fail_if_success (with_reducible first | exact tF hc | exact fT hc)) <;> (try simp only [HCl] at hc) <;> (try (exfalso; omega)))) | refine W_seq ?_ | refine W_region ?_ | refine W_skip ?_ | refine W_ret ?_ | refine W_block ?_ | refine W_exit ?_ | refine W_cond_t rfl ?_ | refine W_cond_f rfl ?_ | (refine W_cond rfl (fun hc => ?_) (fun hc => ?_) <;> (try simp only [HCl] at hc) <;> (try (exfalso; omega))))
    refine ⟨_, _, rfl, rfl, ?_⟩; simp [Frz_tup, Frz_ag, Frzs_cons, Frzs_nil, Frz_d, Frz_e0, Frz_sl, sln, isSl, slOk]
  have hT := Take_fn b (by omega)
  rcases takeM_cases b with ⟨m, h1, h2, h3, h4⟩ | ⟨h1, h2⟩ | ⟨h1, h2⟩
  · have hP := Put_fn m (by omega)
    have hR := rRight_fn m (by omega)
    have hs := same7_fn b b
    rw [h1] at hT
    rw [h3] at hP
    rw [h2] at hR
    rw [show (b == b) = true by simp] at hs
    obtain ⟨k, c, s, d, ky, sl, dn, pl, pr, l, ⟨ik, iv, ir, ig⟩, co⟩ := m
    unfold Msg.d Msg.cells at *
    have nS := True.intro
    repeat' (first | ((with_reducible refine sg ?_); first | with_reducible rfl | ((with_reducible refine fitG ?_); first | kernel_rfl | rfl | (simp [fitT, fitF, nS]; done)) | with_reducible refine andT ?_ ?_ | with_reducible exact Nat.beq_refl _ | with_reducible exact fitsI_u8 _ | ((with_reducible refine decide_eq_true ?_); first | omega | (simp only [SZl, nS]; omega)) | decide | (simp [SZl, slc, allOneD, D.one, allOne, AV.one, nS]; done) | (simp [SZl, nS]; omega)) | ((with_reducible refine gWl ?_); first | (refine Wl_isMv rfl ?_; refine Xmv eok rfl rfl rfl rfl ?_) | refine Xq eok rfl rfl rfl rfl ?_ ?_ | refine Xn [0, 2, 3, 4, 5, 6, 9, 17] rfl ?_ | refine XF (hw) rfl rfl rfl rfl ?_ | refine XF (hT) rfl rfl rfl rfl ?_ | refine XF (hP) rfl rfl rfl rfl ?_ | refine XF (hR) rfl rfl rfl rfl ?_ | refine XF (hs) rfl rfl rfl rfl ?_ | refine Xa eok rfl rfl rfl rfl rfl ?_ ?_ | refine Xw eok rfl rfl rfl rfl ?_ ?_ | refine Xs rfl rfl rfl ?_ | (refine Xsplit rfl rfl (fun hc => ?_) (fun hc => ?_) <;> (fail_if_success (with_reducible first | exact tF hc | exact fT hc)) <;> (try simp only [HCl] at hc) <;> (try (exfalso; omega)))) | refine W_seq ?_ | refine W_region ?_ | refine W_skip ?_ | refine W_ret ?_ | refine W_block ?_ | refine W_exit ?_ | refine W_cond_t rfl ?_ | refine W_cond_f rfl ?_ | (refine W_cond rfl (fun hc => ?_) (fun hc => ?_) <;> (try simp only [HCl] at hc) <;> (try (exfalso; omega))))
    refine ⟨_, _, rfl, rfl, ?_⟩; simp [Frz_tup, Frz_ag, Frzs_cons, Frzs_nil, Frz_d, Frz_e0, Frz_sl, sln, isSl, slOk]
  · have hS := rSame_fn zeroM zeroM (by decide)
    rw [decide_eq_true rfl] at hS
    rw [h1] at hT
    unfold Msg.d Msg.cells at *
    simp only [zeroM, zeroI] at *
    have f : decide ((b.length : Int) < 8) = true := decide_eq_true (by omega)
    have nS := f
    repeat' (first | ((with_reducible refine sg ?_); first | with_reducible rfl | ((with_reducible refine fitG ?_); first | kernel_rfl | rfl | (simp [fitT, fitF, nS]; done)) | with_reducible refine andT ?_ ?_ | with_reducible exact Nat.beq_refl _ | with_reducible exact fitsI_u8 _ | ((with_reducible refine decide_eq_true ?_); first | omega | (simp only [SZl, nS]; omega)) | decide | (simp [SZl, slc, allOneD, D.one, allOne, AV.one, nS]; done) | (simp [SZl, nS]; omega)) | ((with_reducible refine gWl ?_); first | (refine Wl_isMv rfl ?_; refine Xmv eok rfl rfl rfl rfl ?_) | refine Xq eok rfl rfl rfl rfl ?_ ?_ | refine Xn [0, 2, 3, 4, 5, 6, 9, 17] rfl ?_ | refine XF (hw) rfl rfl rfl rfl ?_ | refine XF (hT) rfl rfl rfl rfl ?_ | refine XFz (hS) rfl rfl rfl rfl (by first | (simp [AsD, Frzs, Frz, isSl, sln, slOk]; done) | (repeat' (first | rfl | trivial | refine ⟨rfl, rfl, by simp [slOk]⟩ | refine ⟨_, _, rfl, ?_, ?_⟩ | refine ⟨_, rfl, ?_⟩))) ?_ | refine Xa eok rfl rfl rfl rfl rfl ?_ ?_ | refine Xw eok rfl rfl rfl rfl ?_ ?_ | refine Xs rfl rfl rfl ?_ | (refine Xsplit rfl rfl (fun hc => ?_) (fun hc => ?_) <;> (fail_if_success (with_reducible first | exact tF hc | exact fT hc)) <;> (try simp only [HCl] at hc) <;> (try (exfalso; omega)))) | refine W_seq ?_ | refine W_region ?_ | refine W_skip ?_ | refine W_ret ?_ | refine W_block ?_ | refine W_exit ?_ | refine W_cond_t rfl ?_ | refine W_cond_f rfl ?_ | (refine W_cond rfl (fun hc => ?_) (fun hc => ?_) <;> (try simp only [HCl] at hc) <;> (try (exfalso; omega))))
    refine ⟨_, _, rfl, rfl, ?_⟩; simp [Frz_tup, Frz_ag, Frzs_cons, Frzs_nil, Frz_d, Frz_e0, Frz_sl, sln, isSl, slOk]
  · have hS := rSame_fn zeroM zeroM (by decide)
    rw [decide_eq_true rfl] at hS
    rw [h1] at hT
    unfold Msg.d Msg.cells at *
    simp only [zeroM, zeroI] at *
    have f : decide ((b.length : Int) < 8) = false := decide_eq_false (by omega)
    have nS := f
    repeat' (first | ((with_reducible refine sg ?_); first | with_reducible rfl | ((with_reducible refine fitG ?_); first | kernel_rfl | rfl | (simp [fitT, fitF, nS]; done)) | with_reducible refine andT ?_ ?_ | with_reducible exact Nat.beq_refl _ | with_reducible exact fitsI_u8 _ | ((with_reducible refine decide_eq_true ?_); first | omega | (simp only [SZl, nS]; omega)) | decide | (simp [SZl, slc, allOneD, D.one, allOne, AV.one, nS]; done) | (simp [SZl, nS]; omega)) | ((with_reducible refine gWl ?_); first | (refine Wl_isMv rfl ?_; refine Xmv eok rfl rfl rfl rfl ?_) | refine Xq eok rfl rfl rfl rfl ?_ ?_ | refine Xn [0, 2, 3, 4, 5, 6, 9, 17] rfl ?_ | refine XF (hw) rfl rfl rfl rfl ?_ | refine XF (hT) rfl rfl rfl rfl ?_ | refine XFz (hS) rfl rfl rfl rfl (by first | (simp [AsD, Frzs, Frz, isSl, sln, slOk]; done) | (repeat' (first | rfl | trivial | refine ⟨rfl, rfl, by simp [slOk]⟩ | refine ⟨_, _, rfl, ?_, ?_⟩ | refine ⟨_, rfl, ?_⟩))) ?_ | refine Xa eok rfl rfl rfl rfl rfl ?_ ?_ | refine Xw eok rfl rfl rfl rfl ?_ ?_ | refine Xs rfl rfl rfl ?_ | (refine Xsplit rfl rfl (fun hc => ?_) (fun hc => ?_) <;> (fail_if_success (with_reducible first | exact tF hc | exact fT hc)) <;> (try simp only [HCl] at hc) <;> (try (exfalso; omega)))) | refine W_seq ?_ | refine W_region ?_ | refine W_skip ?_ | refine W_ret ?_ | refine W_block ?_ | refine W_exit ?_ | refine W_cond_t rfl ?_ | refine W_cond_f rfl ?_ | (refine W_cond rfl (fun hc => ?_) (fun hc => ?_) <;> (try simp only [HCl] at hc) <;> (try (exfalso; omega))))
    refine ⟨_, _, rfl, rfl, ?_⟩; simp [Frz_tup, Frz_ag, Frzs_cons, Frzs_nil, Frz_d, Frz_e0, Frz_sl, sln, isSl, slOk]
theorem payloads_fn (p : List UInt8) : Go.Gar.Fn Try.prog 5 [.by p] (.b true) := by
  have hw := wakes7_fn
  have hm := Most_fn
  refine Fn_of_W eok Try.func5 rfl rfl (Nat.le_of_ble_eq_true rfl) ?_
  by_cases hl : p.length > 112
  · have nS := True.intro
    repeat' (first | ((with_reducible refine sg ?_); first | with_reducible rfl | ((with_reducible refine fitG ?_); first | kernel_rfl | rfl | (simp [fitT, fitF, nS]; done)) | with_reducible refine andT ?_ ?_ | with_reducible exact Nat.beq_refl _ | with_reducible exact fitsI_u8 _ | ((with_reducible refine decide_eq_true ?_); first | omega | (simp only [SZl, nS]; omega)) | decide | (simp [SZl, slc, allOneD, D.one, allOne, AV.one, nS]; done) | (simp [SZl, nS]; omega)) | ((with_reducible refine gWl ?_); first | (refine Wl_isMv rfl ?_; refine Xmv eok rfl rfl rfl rfl ?_) | refine Xq eok rfl rfl rfl rfl ?_ ?_ | refine Xn [0, 2, 3, 4, 5, 6, 7, 8, 9, 10, 13, 50, 52] rfl ?_ | refine XF (hw) rfl rfl rfl rfl ?_ | refine Xa eok rfl rfl rfl rfl rfl ?_ ?_ | refine Xw eok rfl rfl rfl rfl ?_ ?_ | refine Xs rfl rfl rfl ?_ | (refine Xsplit rfl rfl (fun hc => ?_) (fun hc => ?_) <;> (fail_if_success (with_reducible first | exact tF hc | exact fT hc)) <;> (try simp only [HCl] at hc) <;> (try (exfalso; omega)))) | refine W_seq ?_ | refine W_region ?_ | refine W_skip ?_ | refine W_ret ?_ | refine W_block ?_ | refine W_exit ?_ | refine W_cond_t rfl ?_ | refine W_cond_f rfl ?_ | (refine W_cond rfl (fun hc => ?_) (fun hc => ?_) <;> (try simp only [HCl] at hc) <;> (try (exfalso; omega))))
    refine ⟨_, _, rfl, rfl, ?_⟩; simp [Frz_tup, Frz_ag, Frzs_cons, Frzs_nil, Frz_d, Frz_e0, Frz_sl, sln, isSl, slOk]
  have hC := rClose_fn p
  have e0 : (closeV p).2 = 0 := by rw [closeV_ok (by omega)]
  have hlc : (closeV p).1.length < 70368744177664 := by rw [closeV_ok (by omega)]; simp [hdr_len, be4_len]; omega
  have hT := Take_fn (closeV p).1 hlc
  have hR := Read_fn p
  have eT : takeM (closeV p).1 = readS p := by unfold takeM; rw [open_close (by omega)]; rfl
  rw [eT] at hT
  rw [e0] at hC
  generalize (closeV p).1 = B at *
  have hS := rSame_fn (readS p).1 (readS p).1
  rcases read_get (b := p) (m := (readS p).1) (e := (readS p).2) rfl with ⟨g1, g2, g3⟩ | ⟨g1, g2⟩
  · have hl3 : (readS p).1.list.length ≤ 3 := by
      rcases takeM_cases (closeV p).1 with ⟨m, h1, h2, h3, h4⟩ | ⟨h1, h2⟩ | ⟨h1, h2⟩
      · have e : takeM (closeV p).1 = readS p := by unfold takeM; rw [open_close (by omega)]; rfl
        rw [← e, h1]; exact h4
      · have e : takeM (closeV p).1 = readS p := by unfold takeM; rw [open_close (by omega)]; rfl
        rw [← e, h1]; exact Nat.zero_le _
      · have e : takeM (closeV p).1 = readS p := by unfold takeM; rw [open_close (by omega)]; rfl
        rw [← e, h1]; exact Nat.zero_le _
    have hS := hS (by omega)
    have hP := Payload_fn (readS p).1 (by omega)
    have hs := same7_fn p p
    have hlp := payB_len g2
    have e2 : payS (readS p).1 = (p, 0) := by unfold payS; rw [if_pos g2, g3]
    rw [e2] at hP
    rw [show (p == p) = true by simp] at hs
    rw [decide_eq_true rfl] at hS
    rw [g1] at hT hR
    rw [g3] at hlp
    clear g1 g2 g3 e2 hl3 eT
    generalize (readS p).1 = m at *
    obtain ⟨k, c, s, d, ky, sl, dn, pl, pr, l, ⟨ik, iv, ir, ig⟩, co⟩ := m
    unfold Msg.d Msg.cells at *
    have nS := True.intro
    repeat' (first | ((with_reducible refine sg ?_); first | with_reducible rfl | ((with_reducible refine fitG ?_); first | kernel_rfl | rfl | (simp [fitT, fitF, nS]; done)) | with_reducible refine andT ?_ ?_ | with_reducible exact Nat.beq_refl _ | with_reducible exact fitsI_u8 _ | ((with_reducible refine decide_eq_true ?_); first | omega | (simp only [SZl, nS]; omega)) | decide | (simp [SZl, slc, allOneD, D.one, allOne, AV.one, nS]; done) | (simp [SZl, nS]; omega)) | ((with_reducible refine gWl ?_); first | (refine Wl_isMv rfl ?_; refine Xmv eok rfl rfl rfl rfl ?_) | refine Xq eok rfl rfl rfl rfl ?_ ?_ | refine Xn [0, 2, 3, 4, 5, 6, 7, 8, 9, 10, 13, 50, 52] rfl ?_ | refine XF (hw) rfl rfl rfl rfl ?_ | refine XF (hm) rfl rfl rfl rfl ?_ | refine XF (hC) rfl rfl rfl rfl ?_ | refine XF (hT) rfl rfl rfl rfl ?_ | refine XF (hR) rfl rfl rfl rfl ?_ | refine XF (hP) rfl rfl rfl rfl ?_ | refine XF (hs) rfl rfl rfl rfl ?_ | refine XF (hS) rfl rfl rfl rfl ?_ | refine Xa eok rfl rfl rfl rfl rfl ?_ ?_ | refine Xw eok rfl rfl rfl rfl ?_ ?_ | refine Xs rfl rfl rfl ?_ | (refine Xsplit rfl rfl (fun hc => ?_) (fun hc => ?_) <;> (fail_if_success (with_reducible first | exact tF hc | exact fT hc)) <;> (try simp only [HCl] at hc) <;> (try (exfalso; omega)))) | refine W_seq ?_ | refine W_region ?_ | refine W_skip ?_ | refine W_ret ?_ | refine W_block ?_ | refine W_exit ?_ | refine W_cond_t rfl ?_ | refine W_cond_f rfl ?_ | (refine W_cond rfl (fun hc => ?_) (fun hc => ?_) <;> (try simp only [HCl] at hc) <;> (try (exfalso; omega))))
    refine ⟨_, _, rfl, rfl, ?_⟩; simp [Frz_tup, Frz_ag, Frzs_cons, Frzs_nil, Frz_d, Frz_e0, Frz_sl, sln, isSl, slOk]
  · rw [g2] at hS
    have hS2 := hS (by decide)
    clear hS
    rw [decide_eq_true rfl] at hS2
    rw [g1, g2] at hT hR
    unfold Msg.d Msg.cells at *
    simp only [zeroM, zeroI] at *
    have nS := True.intro
    repeat' (first | ((with_reducible refine sg ?_); first | with_reducible rfl | ((with_reducible refine fitG ?_); first | kernel_rfl | rfl | (simp [fitT, fitF, nS]; done)) | with_reducible refine andT ?_ ?_ | with_reducible exact Nat.beq_refl _ | with_reducible exact fitsI_u8 _ | ((with_reducible refine decide_eq_true ?_); first | omega | (simp only [SZl, nS]; omega)) | decide | (simp [SZl, slc, allOneD, D.one, allOne, AV.one, nS]; done) | (simp [SZl, nS]; omega)) | ((with_reducible refine gWl ?_); first | (refine Wl_isMv rfl ?_; refine Xmv eok rfl rfl rfl rfl ?_) | refine Xq eok rfl rfl rfl rfl ?_ ?_ | refine Xn [0, 2, 3, 4, 5, 6, 7, 8, 9, 10, 13, 50, 52] rfl ?_ | refine XF (hw) rfl rfl rfl rfl ?_ | refine XF (hm) rfl rfl rfl rfl ?_ | refine XF (hC) rfl rfl rfl rfl ?_ | refine XF (hT) rfl rfl rfl rfl ?_ | refine XF (hR) rfl rfl rfl rfl ?_ | refine XF (hS2) rfl rfl rfl rfl ?_ | refine Xa eok rfl rfl rfl rfl rfl ?_ ?_ | refine Xw eok rfl rfl rfl rfl ?_ ?_ | refine Xs rfl rfl rfl ?_ | (refine Xsplit rfl rfl (fun hc => ?_) (fun hc => ?_) <;> (fail_if_success (with_reducible first | exact tF hc | exact fT hc)) <;> (try simp only [HCl] at hc) <;> (try (exfalso; omega)))) | refine W_seq ?_ | refine W_region ?_ | refine W_skip ?_ | refine W_ret ?_ | refine W_block ?_ | refine W_exit ?_ | refine W_cond_t rfl ?_ | refine W_cond_f rfl ?_ | (refine W_cond rfl (fun hc => ?_) (fun hc => ?_) <;> (try simp only [HCl] at hc) <;> (try (exfalso; omega))))
    refine ⟨_, _, rfl, rfl, ?_⟩; simp [Frz_tup, Frz_ag, Frzs_cons, Frzs_nil, Frz_d, Frz_e0, Frz_sl, sln, isSl, slOk]
theorem apart_fn7 (m o : Msg) (hm : m.list.length < 9223372036854775807) (ho : o.list.length < 9223372036854775807) : Go.Gar.Fn Try.prog 6 [m.d, o.d] (.b true) := by
  have hw := wakes7_fn
  have g1 := great_fn m
  have g2 := great_fn o
  have r1 := rRight_fn m hm
  have r2 := rRight_fn o ho
  have p1 := Put_fn m hm
  have p2 := Put_fn o ho
  have hS := rSame_fn m o hm
  have hs := same7_fn (putM m).1 (putM o).1
  have key : m.right = true → o.right = true → ((putM m).1 == (putM o).1) = decide (m = o) := by
    intro h1 h2
    rw [beq_dec]
    congr 1
    simp only [eq_iff_iff]
    constructor
    · intro h
      have a1 := takeM_put h1
      have a2 := takeM_put h2
      rw [h, a2] at a1
      cases a1; rfl
    · rintro rfl; rfl
  have k1 : m.right = true → (putM m).2 = 0 := fun h => by rw [putM_ok h]
  have k2 : o.right = true → (putM o).2 = 0 := fun h => by rw [putM_ok h]
  generalize (putM m).1 = A at *
  generalize (putM o).1 = B at *
  generalize (putM m).2 = e1 at *
  generalize (putM o).2 = e2 at *
  generalize decide (m = o) = q at *
  generalize greatM m = y1 at *
  generalize greatM o = y2 at *
  generalize m.right = z1 at *
  generalize o.right = z2 at *
  obtain ⟨k, c, s, d, ky, sl, dn, pl, pr, l, ⟨ik, iv, ir, ig⟩, co⟩ := m
  obtain ⟨k', c', s', d', ky', sl', dn', pl', pr', l', ⟨ik', iv', ir', ig'⟩, co'⟩ := o
  unfold Msg.d Msg.cells at *
  refine Fn_of_W eok Try.func6 rfl rfl (Nat.le_of_ble_eq_true rfl) ?_
  cases y1 with
  | true =>
    have nS := True.intro
    repeat' (first | ((with_reducible refine sg ?_); first | with_reducible rfl | ((with_reducible refine fitG ?_); first | kernel_rfl | rfl | (simp [fitT, fitF, nS]; done)) | with_reducible refine andT ?_ ?_ | with_reducible exact Nat.beq_refl _ | with_reducible exact fitsI_u8 _ | ((with_reducible refine decide_eq_true ?_); first | omega | (simp only [SZl, nS]; omega)) | decide | (simp [SZl, slc, allOneD, D.one, allOne, AV.one, nS]; done) | (simp [SZl, nS]; omega)) | ((with_reducible refine gWl ?_); first | (refine Wl_isMv rfl ?_; refine Xmv eok rfl rfl rfl rfl ?_) | refine Xq eok rfl rfl rfl rfl ?_ ?_ | refine Xn [0, 1, 2, 3, 4, 5, 6, 7, 8, 24] rfl ?_ | refine XF (hw) rfl rfl rfl rfl ?_ | refine XF (g1) rfl rfl rfl rfl ?_ | refine Xa eok rfl rfl rfl rfl rfl ?_ ?_ | refine Xs rfl rfl rfl ?_ | (refine Xsplit rfl rfl (fun hc => ?_) (fun hc => ?_) <;> (fail_if_success (with_reducible first | exact tF hc | exact fT hc)) <;> (try simp only [HCl] at hc) <;> (try (exfalso; omega)))) | ((with_reducible refine gWd ?_); first | (refine Wd_isMv rfl ?_; refine Ymv eok rfl rfl (fun _ => rfl) rfl rfl ?_) | refine Yp eok rfl rfl (fun _ => rfl) rfl rfl ?_ ?_ | refine Yq rfl rfl rfl rfl rfl ?_ ?_ | refine Ys rfl rfl rfl rfl ?_ | refine YF (hw) rfl rfl rfl rfl rfl ?_ | refine YF (g1) rfl rfl rfl rfl rfl ?_ | refine Ya eok rfl rfl rfl rfl rfl rfl ?_ ?_ | refine Yw eok rfl rfl rfl rfl rfl ?_ ?_ | refine Yn [0, 1, 2, 3, 4, 5, 6, 7, 8, 24] [] mixed eok (by kernel_rfl) True.intro rfl ?_ | (refine Ysplit rfl rfl (fun hc => ?_) (fun hc => ?_) <;> (fail_if_success (with_reducible first | exact tF hc | exact fT hc)) <;> (try simp only [HCl] at hc) <;> (try (exfalso; omega)))) | refine W_seq ?_ | refine W_region ?_ | refine W_any T.get ?_ | refine W_skip ?_ | refine W_ret ?_ | refine W_block ?_ | refine W_exit ?_ | refine W_cond_t rfl ?_ | refine W_cond_f rfl ?_ | (refine W_cond rfl (fun hc => ?_) (fun hc => ?_) <;> (try simp only [HCl] at hc) <;> (try (exfalso; omega))))
    refine ⟨_, _, rfl, rfl, ?_⟩; simp [Frz_tup, Frz_ag, Frzs_cons, Frzs_nil, Frz_d, Frz_e0, Frz_sl, sln, isSl, slOk]
  | false =>
  cases y2 with
  | true =>
    have nS := True.intro
    repeat' (first | ((with_reducible refine sg ?_); first | with_reducible rfl | ((with_reducible refine fitG ?_); first | kernel_rfl | rfl | (simp [fitT, fitF, nS]; done)) | with_reducible refine andT ?_ ?_ | with_reducible exact Nat.beq_refl _ | with_reducible exact fitsI_u8 _ | ((with_reducible refine decide_eq_true ?_); first | omega | (simp only [SZl, nS]; omega)) | decide | (simp [SZl, slc, allOneD, D.one, allOne, AV.one, nS]; done) | (simp [SZl, nS]; omega)) | ((with_reducible refine gWl ?_); first | (refine Wl_isMv rfl ?_; refine Xmv eok rfl rfl rfl rfl ?_) | refine Xq eok rfl rfl rfl rfl ?_ ?_ | refine Xn [0, 1, 2, 3, 4, 5, 6, 7, 8, 24] rfl ?_ | refine XF (hw) rfl rfl rfl rfl ?_ | refine XF (g1) rfl rfl rfl rfl ?_ | refine XF (g2) rfl rfl rfl rfl ?_ | refine Xa eok rfl rfl rfl rfl rfl ?_ ?_ | refine Xs rfl rfl rfl ?_ | (refine Xsplit rfl rfl (fun hc => ?_) (fun hc => ?_) <;> (fail_if_success (with_reducible first | exact tF hc | exact fT hc)) <;> (try simp only [HCl] at hc) <;> (try (exfalso; omega)))) | ((with_reducible refine gWd ?_); first | (refine Wd_isMv rfl ?_; refine Ymv eok rfl rfl (fun _ => rfl) rfl rfl ?_) | refine Yp eok rfl rfl (fun _ => rfl) rfl rfl ?_ ?_ | refine Yq rfl rfl rfl rfl rfl ?_ ?_ | refine Ys rfl rfl rfl rfl ?_ | refine YF (hw) rfl rfl rfl rfl rfl ?_ | refine YF (g1) rfl rfl rfl rfl rfl ?_ | refine YF (g2) rfl rfl rfl rfl rfl ?_ | refine Ya eok rfl rfl rfl rfl rfl rfl ?_ ?_ | refine Yw eok rfl rfl rfl rfl rfl ?_ ?_ | refine Yn [0, 1, 2, 3, 4, 5, 6, 7, 8, 24] [] mixed eok (by kernel_rfl) True.intro rfl ?_ | (refine Ysplit rfl rfl (fun hc => ?_) (fun hc => ?_) <;> (fail_if_success (with_reducible first | exact tF hc | exact fT hc)) <;> (try simp only [HCl] at hc) <;> (try (exfalso; omega)))) | refine W_seq ?_ | refine W_region ?_ | refine W_any T.get ?_ | refine W_skip ?_ | refine W_ret ?_ | refine W_block ?_ | refine W_exit ?_ | refine W_cond_t rfl ?_ | refine W_cond_f rfl ?_ | (refine W_cond rfl (fun hc => ?_) (fun hc => ?_) <;> (try simp only [HCl] at hc) <;> (try (exfalso; omega))))
    refine ⟨_, _, rfl, rfl, ?_⟩; simp [Frz_tup, Frz_ag, Frzs_cons, Frzs_nil, Frz_d, Frz_e0, Frz_sl, sln, isSl, slOk]
  | false =>
  cases z1 with
  | false =>
    have nS := True.intro
    repeat' (first | ((with_reducible refine sg ?_); first | with_reducible rfl | ((with_reducible refine fitG ?_); first | kernel_rfl | rfl | (simp [fitT, fitF, nS]; done)) | with_reducible refine andT ?_ ?_ | with_reducible exact Nat.beq_refl _ | with_reducible exact fitsI_u8 _ | ((with_reducible refine decide_eq_true ?_); first | omega | (simp only [SZl, nS]; omega)) | decide | (simp [SZl, slc, allOneD, D.one, allOne, AV.one, nS]; done) | (simp [SZl, nS]; omega)) | ((with_reducible refine gWl ?_); first | (refine Wl_isMv rfl ?_; refine Xmv eok rfl rfl rfl rfl ?_) | refine Xq eok rfl rfl rfl rfl ?_ ?_ | refine Xn [0, 1, 2, 3, 4, 5, 6, 7, 8, 24] rfl ?_ | refine XF (hw) rfl rfl rfl rfl ?_ | refine XF (g1) rfl rfl rfl rfl ?_ | refine XF (g2) rfl rfl rfl rfl ?_ | refine XF (r1) rfl rfl rfl rfl ?_ | refine Xa eok rfl rfl rfl rfl rfl ?_ ?_ | refine Xs rfl rfl rfl ?_ | (refine Xsplit rfl rfl (fun hc => ?_) (fun hc => ?_) <;> (fail_if_success (with_reducible first | exact tF hc | exact fT hc)) <;> (try simp only [HCl] at hc) <;> (try (exfalso; omega)))) | ((with_reducible refine gWd ?_); first | (refine Wd_isMv rfl ?_; refine Ymv eok rfl rfl (fun _ => rfl) rfl rfl ?_) | refine Yp eok rfl rfl (fun _ => rfl) rfl rfl ?_ ?_ | refine Yq rfl rfl rfl rfl rfl ?_ ?_ | refine Ys rfl rfl rfl rfl ?_ | refine YF (hw) rfl rfl rfl rfl rfl ?_ | refine YF (g1) rfl rfl rfl rfl rfl ?_ | refine YF (g2) rfl rfl rfl rfl rfl ?_ | refine YF (r1) rfl rfl rfl rfl rfl ?_ | refine Ya eok rfl rfl rfl rfl rfl rfl ?_ ?_ | refine Yw eok rfl rfl rfl rfl rfl ?_ ?_ | refine Yn [0, 1, 2, 3, 4, 5, 6, 7, 8, 24] [] mixed eok (by kernel_rfl) True.intro rfl ?_ | (refine Ysplit rfl rfl (fun hc => ?_) (fun hc => ?_) <;> (fail_if_success (with_reducible first | exact tF hc | exact fT hc)) <;> (try simp only [HCl] at hc) <;> (try (exfalso; omega)))) | refine W_seq ?_ | refine W_region ?_ | refine W_any T.get ?_ | refine W_skip ?_ | refine W_ret ?_ | refine W_block ?_ | refine W_exit ?_ | refine W_cond_t rfl ?_ | refine W_cond_f rfl ?_ | (refine W_cond rfl (fun hc => ?_) (fun hc => ?_) <;> (try simp only [HCl] at hc) <;> (try (exfalso; omega))))
    refine ⟨_, _, rfl, rfl, ?_⟩; simp [Frz_tup, Frz_ag, Frzs_cons, Frzs_nil, Frz_d, Frz_e0, Frz_sl, sln, isSl, slOk]
  | true =>
  cases z2 with
  | false =>
    have nS := True.intro
    repeat' (first | ((with_reducible refine sg ?_); first | with_reducible rfl | ((with_reducible refine fitG ?_); first | kernel_rfl | rfl | (simp [fitT, fitF, nS]; done)) | with_reducible refine andT ?_ ?_ | with_reducible exact Nat.beq_refl _ | with_reducible exact fitsI_u8 _ | ((with_reducible refine decide_eq_true ?_); first | omega | (simp only [SZl, nS]; omega)) | decide | (simp [SZl, slc, allOneD, D.one, allOne, AV.one, nS]; done) | (simp [SZl, nS]; omega)) | ((with_reducible refine gWl ?_); first | (refine Wl_isMv rfl ?_; refine Xmv eok rfl rfl rfl rfl ?_) | refine Xq eok rfl rfl rfl rfl ?_ ?_ | refine Xn [0, 1, 2, 3, 4, 5, 6, 7, 8, 24] rfl ?_ | refine XF (hw) rfl rfl rfl rfl ?_ | refine XF (g1) rfl rfl rfl rfl ?_ | refine XF (g2) rfl rfl rfl rfl ?_ | refine XF (r1) rfl rfl rfl rfl ?_ | refine XF (r2) rfl rfl rfl rfl ?_ | refine Xa eok rfl rfl rfl rfl rfl ?_ ?_ | refine Xs rfl rfl rfl ?_ | (refine Xsplit rfl rfl (fun hc => ?_) (fun hc => ?_) <;> (fail_if_success (with_reducible first | exact tF hc | exact fT hc)) <;> (try simp only [HCl] at hc) <;> (try (exfalso; omega)))) | ((with_reducible refine gWd ?_); first | (refine Wd_isMv rfl ?_; refine Ymv eok rfl rfl (fun _ => rfl) rfl rfl ?_) | refine Yp eok rfl rfl (fun _ => rfl) rfl rfl ?_ ?_ | refine Yq rfl rfl rfl rfl rfl ?_ ?_ | refine Ys rfl rfl rfl rfl ?_ | refine YF (hw) rfl rfl rfl rfl rfl ?_ | refine YF (g1) rfl rfl rfl rfl rfl ?_ | refine YF (g2) rfl rfl rfl rfl rfl ?_ | refine YF (r1) rfl rfl rfl rfl rfl ?_ | refine YF (r2) rfl rfl rfl rfl rfl ?_ | refine Ya eok rfl rfl rfl rfl rfl rfl ?_ ?_ | refine Yw eok rfl rfl rfl rfl rfl ?_ ?_ | refine Yn [0, 1, 2, 3, 4, 5, 6, 7, 8, 24] [] mixed eok (by kernel_rfl) True.intro rfl ?_ | (refine Ysplit rfl rfl (fun hc => ?_) (fun hc => ?_) <;> (fail_if_success (with_reducible first | exact tF hc | exact fT hc)) <;> (try simp only [HCl] at hc) <;> (try (exfalso; omega)))) | refine W_seq ?_ | refine W_region ?_ | refine W_any T.get ?_ | refine W_skip ?_ | refine W_ret ?_ | refine W_block ?_ | refine W_exit ?_ | refine W_cond_t rfl ?_ | refine W_cond_f rfl ?_ | (refine W_cond rfl (fun hc => ?_) (fun hc => ?_) <;> (try simp only [HCl] at hc) <;> (try (exfalso; omega))))
    refine ⟨_, _, rfl, rfl, ?_⟩; simp [Frz_tup, Frz_ag, Frzs_cons, Frzs_nil, Frz_d, Frz_e0, Frz_sl, sln, isSl, slOk]
  | true =>
  rw [key rfl rfl] at hs
  have k1 := k1 rfl
  have k2 := k2 rfl
  subst k1; subst k2
  have f : (q == q) = true := by simp
  have nS := f
  repeat' (first | ((with_reducible refine sg ?_); first | with_reducible rfl | ((with_reducible refine fitG ?_); first | kernel_rfl | rfl | (simp [fitT, fitF, nS]; done)) | with_reducible refine andT ?_ ?_ | with_reducible exact Nat.beq_refl _ | with_reducible exact fitsI_u8 _ | ((with_reducible refine decide_eq_true ?_); first | omega | (simp only [SZl, nS]; omega)) | decide | (simp [SZl, slc, allOneD, D.one, allOne, AV.one, nS]; done) | (simp [SZl, nS]; omega)) | ((with_reducible refine gWl ?_); first | (refine Wl_isMv rfl ?_; refine Xmv eok rfl rfl rfl rfl ?_) | refine Xq eok rfl rfl rfl rfl ?_ ?_ | refine Xn [0, 1, 2, 3, 4, 5, 6, 7, 8, 24] rfl ?_ | refine XF (hw) rfl rfl rfl rfl ?_ | refine XF (g1) rfl rfl rfl rfl ?_ | refine XF (g2) rfl rfl rfl rfl ?_ | refine XF (r1) rfl rfl rfl rfl ?_ | refine XF (r2) rfl rfl rfl rfl ?_ | refine XF (p1) rfl rfl rfl rfl ?_ | refine XF (p2) rfl rfl rfl rfl ?_ | refine XF (hS) rfl rfl rfl rfl ?_ | refine XF (hs) rfl rfl rfl rfl ?_ | refine Xa eok rfl rfl rfl rfl rfl ?_ ?_ | refine Xs rfl rfl rfl ?_ | (refine Xsplit rfl rfl (fun hc => ?_) (fun hc => ?_) <;> (fail_if_success (with_reducible first | exact tF hc | exact fT hc)) <;> (try simp only [HCl] at hc) <;> (try (exfalso; omega)))) | ((with_reducible refine gWd ?_); first | (refine Wd_isMv rfl ?_; refine Ymv eok rfl rfl (fun _ => rfl) rfl rfl ?_) | refine Yp eok rfl rfl (fun _ => rfl) rfl rfl ?_ ?_ | refine Yq rfl rfl rfl rfl rfl ?_ ?_ | refine Ys rfl rfl rfl rfl ?_ | refine YF (hw) rfl rfl rfl rfl rfl ?_ | refine YF (g1) rfl rfl rfl rfl rfl ?_ | refine YF (g2) rfl rfl rfl rfl rfl ?_ | refine YF (r1) rfl rfl rfl rfl rfl ?_ | refine YF (r2) rfl rfl rfl rfl rfl ?_ | refine YF (p1) rfl rfl rfl rfl rfl ?_ | refine YF (p2) rfl rfl rfl rfl rfl ?_ | refine YF (hS) rfl rfl rfl rfl rfl ?_ | refine YF (hs) rfl rfl rfl rfl rfl ?_ | refine Ya eok rfl rfl rfl rfl rfl rfl ?_ ?_ | refine Yw eok rfl rfl rfl rfl rfl ?_ ?_ | refine Yn [0, 1, 2, 3, 4, 5, 6, 7, 8, 24] [] mixed eok (by kernel_rfl) True.intro rfl ?_ | (refine Ysplit rfl rfl (fun hc => ?_) (fun hc => ?_) <;> (fail_if_success (with_reducible first | exact tF hc | exact fT hc)) <;> (try simp only [HCl] at hc) <;> (try (exfalso; omega)))) | refine W_seq ?_ | refine W_region ?_ | refine W_any T.get ?_ | refine W_skip ?_ | refine W_ret ?_ | refine W_block ?_ | refine W_exit ?_ | refine W_cond_t rfl ?_ | refine W_cond_f rfl ?_ | (refine W_cond rfl (fun hc => ?_) (fun hc => ?_) <;> (try simp only [HCl] at hc) <;> (try (exfalso; omega))))
  refine ⟨_, _, rfl, rfl, ?_⟩; simp [Frz_tup, Frz_ag, Frzs_cons, Frzs_nil, Frz_d, Frz_e0, Frz_sl, sln, isSl, slOk]
end Wi
end Go.Proofs.Ytbpemnmpcljbpaa
