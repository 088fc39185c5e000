/- Written by a program (pre.py) from the source of the same name. -/
/- Datagrams: put, taken; what the laws call. -/
import Derived.Test.YtbpemnmpcljbpaaGreatWireY
import Derived.Test.YtbpemnmpcljbpaaGreatWireZ
import Derived.Test.YtbpemnmpcljbpaaGreatFwE
set_option linter.unusedSimpArgs false
set_option linter.unusedVariables false
set_option linter.unnecessarySimpa false
namespace Go.Proofs.YtbpemnmpcljbpaaGreat
namespace Wi
open Go.Gar
set_option maxRecDepth 4000

def putM (m : Msg) : List UInt8 × Int := if m.right then closeV (payB m) else ([], 2)
def takeM (b : List UInt8) : Msg × Int := if (openC b).2 = 0 then readS (openC b).1 else (zeroM, (openC b).2)
theorem putM_ok {m : Msg} (h : m.right = true) : putM m = ((closeV (payB m)).1, 0) := by
  have := payB_len h
  unfold putM
  rw [if_pos h, closeV_ok (by omega)]
theorem Put_fn (m : Msg) (hl : m.list.length < 9223372036854775807) : Go.Gar.Fn Tryz.prog 12 [m.d] (.tup [.by (putM m).1, .i .i64 (putM m).2]) := by
  have hP := Payload_fn m hl
  cases h : m.right with
  | false =>
    have e : putM m = ([], 2) := by unfold putM; rw [h]; rfl
    have e2 : payS m = ([], 2) := by unfold payS; rw [h]; rfl
    rw [e2] at hP
    unfold Msg.d Msg.cells at *
    refine Fn_of_W eok Tryz.func12 rfl rfl (Nat.le_of_ble_eq_true rfl) ?_
    have nS := True.intro
    repeat' (first|((with_reducible refine sg ?_);first|with_reducible rfl|((with_reducible refine fitG ?_);first|kernel_rfl|rfl|(simp [fitT,fitF,nS];done))|with_reducible refine andT ?_ ?_|with_reducible exact Nat.beq_refl _|with_reducible exact fitsI_u8 _|((with_reducible refine decide_eq_true ?_);first|omega|(simp only [SZl,nS];omega))|decide|(simp [SZl,slc,allOneD,D.one,allOne,AV.one,nS];done)|(simp [SZl,nS];omega))|((with_reducible refine gWl ?_);first|(refine Wl_isMv rfl ?_;refine Xmv eok rfl rfl rfl rfl ?_)|refine Xq eok rfl rfl rfl rfl ?_ ?_|refine Xn [0,1,2,3,4,5,12] rfl ?_|refine XF (hP) rfl rfl rfl rfl ?_|refine Xa eok rfl rfl rfl rfl rfl ?_ ?_)|refine W_seq ?_|refine W_region ?_|refine W_skip ?_|refine W_ret ?_|refine W_block ?_|refine W_exit ?_|refine W_cond_t rfl ?_|refine W_cond_f rfl ?_|(refine W_cond rfl (fun hc => ?_) (fun hc => ?_) <;> (try simp only [HCl] at hc) <;> (try (exfalso;omega))))
    refine ⟨_, _, rfl, rfl, ?_⟩; simp [Frz_tup, Frz_ag, Frzs_cons, Frzs_nil, Frz_d, Frz_e0, Frz_sl, sln, isSl, slOk, e]
  | true =>
    have e : putM m = closeV (payB m) := by unfold putM; rw [h]; rfl
    have e2 : payS m = (payB m, 0) := by unfold payS; rw [h]; rfl
    have hC := Close_fn (payB m)
    rw [e2] at hP
    unfold Msg.d Msg.cells at *
    refine Fn_of_W eok Tryz.func12 rfl rfl (Nat.le_of_ble_eq_true rfl) ?_
    have nS := True.intro
    repeat' (first|((with_reducible refine sg ?_);first|with_reducible rfl|((with_reducible refine fitG ?_);first|kernel_rfl|rfl|(simp [fitT,fitF,nS];done))|with_reducible refine andT ?_ ?_|with_reducible exact Nat.beq_refl _|with_reducible exact fitsI_u8 _|((with_reducible refine decide_eq_true ?_);first|omega|(simp only [SZl,nS];omega))|decide|(simp [SZl,slc,allOneD,D.one,allOne,AV.one,nS];done)|(simp [SZl,nS];omega))|((with_reducible refine gWl ?_);first|(refine Wl_isMv rfl ?_;refine Xmv eok rfl rfl rfl rfl ?_)|refine Xq eok rfl rfl rfl rfl ?_ ?_|refine Xn [0,1,2,3,4,5,12] rfl ?_|refine XF (hP) rfl rfl rfl rfl ?_|refine XF (hC) rfl rfl rfl rfl ?_|refine Xa eok rfl rfl rfl rfl rfl ?_ ?_)|refine W_seq ?_|refine W_region ?_|refine W_skip ?_|refine W_ret ?_|refine W_block ?_|refine W_exit ?_|refine W_cond_t rfl ?_|refine W_cond_f rfl ?_|(refine W_cond rfl (fun hc => ?_) (fun hc => ?_) <;> (try simp only [HCl] at hc) <;> (try (exfalso;omega))))
    refine ⟨_, _, rfl, rfl, ?_⟩; simp [Frz_tup, Frz_ag, Frzs_cons, Frzs_nil, Frz_d, Frz_e0, Frz_sl, sln, isSl, slOk, e]
theorem Take_fn (b : List UInt8) (hb : b.length < 70368744177664) : Go.Gar.Fn Tryz.prog 14 [.by b] (.tup [(takeM b).1.d, .i .i64 (takeM b).2]) := by
  have hO := Open_fn b hb
  refine Fn_of_W eok Tryz.func14 rfl rfl (Nat.le_of_ble_eq_true rfl) ?_
  by_cases h : (openC b).2 = 0
  · have e : takeM b = readS (openC b).1 := if_pos h
    have hR := Read_fn (openC b).1
    have f := ne_false h
    unfold Msg.d Msg.cells at *
    have nS := f
    repeat' (first|((with_reducible refine sg ?_);first|with_reducible rfl|((with_reducible refine fitG ?_);first|kernel_rfl|rfl|(simp [fitT,fitF,nS];done))|with_reducible refine andT ?_ ?_|with_reducible exact Nat.beq_refl _|with_reducible exact fitsI_u8 _|((with_reducible refine decide_eq_true ?_);first|omega|(simp only [SZl,nS];omega))|decide|(simp [SZl,slc,allOneD,D.one,allOne,AV.one,nS];done)|(simp [SZl,nS];omega))|((with_reducible refine gWl ?_);first|(refine Wl_isMv rfl ?_;refine Xmv eok rfl rfl rfl rfl ?_)|refine Xq eok rfl rfl rfl rfl ?_ ?_|refine Xn [0,2,3,4,5,12] rfl ?_|refine XF (hO) rfl rfl rfl rfl ?_|refine XF (hR) rfl rfl rfl rfl ?_|refine Xa eok rfl rfl rfl rfl rfl ?_ ?_|refine Xw eok rfl rfl rfl rfl ?_ ?_)|refine W_seq ?_|refine W_region ?_|refine W_skip ?_|refine W_ret ?_|refine W_block ?_|refine W_exit ?_|refine W_cond_t rfl ?_|refine W_cond_f rfl ?_|(refine W_cond rfl (fun hc => ?_) (fun hc => ?_) <;> (try simp only [HCl] at hc) <;> (try (exfalso;omega))))
    refine ⟨_, _, rfl, rfl, ?_⟩; simp [Frz_tup, Frz_ag, Frzs_cons, Frzs_nil, Frz_d, Frz_e0, Frz_sl, sln, isSl, slOk, e]
  · have e : takeM b = (zeroM, (openC b).2) := if_neg h
    have f := ne_true h
    unfold Msg.d Msg.cells
    have nS := f
    repeat' (first|((with_reducible refine sg ?_);first|with_reducible rfl|((with_reducible refine fitG ?_);first|kernel_rfl|rfl|(simp [fitT,fitF,nS];done))|with_reducible refine andT ?_ ?_|with_reducible exact Nat.beq_refl _|with_reducible exact fitsI_u8 _|((with_reducible refine decide_eq_true ?_);first|omega|(simp only [SZl,nS];omega))|decide|(simp [SZl,slc,allOneD,D.one,allOne,AV.one,nS];done)|(simp [SZl,nS];omega))|((with_reducible refine gWl ?_);first|(refine Wl_isMv rfl ?_;refine Xmv eok rfl rfl rfl rfl ?_)|refine Xq eok rfl rfl rfl rfl ?_ ?_|refine Xn [0,2,3,4,5,12] rfl ?_|refine XF (hO) rfl rfl rfl rfl ?_|refine Xa eok rfl rfl rfl rfl rfl ?_ ?_|refine Xw eok rfl rfl rfl rfl ?_ ?_)|refine W_seq ?_|refine W_region ?_|refine W_skip ?_|refine W_ret ?_|refine W_block ?_|refine W_exit ?_|refine W_cond_t rfl ?_|refine W_cond_f rfl ?_|(refine W_cond rfl (fun hc => ?_) (fun hc => ?_) <;> (try simp only [HCl] at hc) <;> (try (exfalso;omega))))
    refine ⟨_, _, rfl, rfl, ?_⟩; simp [Frz_tup, Frz_ag, Frzs_cons, Frzs_nil, Frz_d, Frz_e0, Frz_sl, sln, isSl, slOk, e, zeroM, zeroI]
theorem Most_fn : Go.Gar.Fn Tryz.prog 17 [] (.i .i64 46) := by
  refine Fn_of_W eok Tryz.func17 rfl rfl (Nat.le_of_ble_eq_true rfl) ?_
  have nS := True.intro
  repeat' (first|((with_reducible refine sg ?_);first|with_reducible rfl|((with_reducible refine fitG ?_);first|kernel_rfl|rfl|(simp [fitT,fitF,nS];done))|with_reducible refine andT ?_ ?_|with_reducible exact Nat.beq_refl _|with_reducible exact fitsI_u8 _|((with_reducible refine decide_eq_true ?_);first|omega|(simp only [SZl,nS];omega))|decide|(simp [SZl,slc,allOneD,D.one,allOne,AV.one,nS];done)|(simp [SZl,nS];omega))|((with_reducible refine gWl ?_);first|(refine Wl_isMv rfl ?_;refine Xmv eok rfl rfl rfl rfl ?_)|refine Xq eok rfl rfl rfl rfl ?_ ?_|refine Xn [0] rfl ?_)|refine W_seq ?_|refine W_region ?_|refine W_skip ?_|refine W_ret ?_|refine W_block ?_|refine W_exit ?_|refine W_cond_t rfl ?_|refine W_cond_f rfl ?_|(refine W_cond rfl (fun hc => ?_) (fun hc => ?_) <;> (try simp only [HCl] at hc) <;> (try (exfalso;omega))))
  refine ⟨_, _, rfl, rfl, ?_⟩; simp [Frz_tup, Frz_ag, Frzs_cons, Frzs_nil, Frz_d, Frz_e0, Frz_sl, sln, isSl, slOk]
theorem same7_fn (a b : List UInt8) : Go.Gar.Fn Tryz.prog 10 [.by a, .by b] (.b (a == b)) := by
  refine Fn_of_W eok Tryz.func10 rfl rfl (Nat.le_of_ble_eq_true rfl) ?_
  have nS := True.intro
  repeat' (first|((with_reducible refine sg ?_);first|with_reducible rfl|((with_reducible refine fitG ?_);first|kernel_rfl|rfl|(simp [fitT,fitF,nS];done))|with_reducible refine andT ?_ ?_|with_reducible exact Nat.beq_refl _|with_reducible exact fitsI_u8 _|((with_reducible refine decide_eq_true ?_);first|omega|(simp only [SZl,nS];omega))|decide|(simp [SZl,slc,allOneD,D.one,allOne,AV.one,nS];done)|(simp [SZl,nS];omega))|((with_reducible refine gWl ?_);first|(refine Wl_isMv rfl ?_;refine Xmv eok rfl rfl rfl rfl ?_)|refine Xq eok rfl rfl rfl rfl ?_ ?_|refine Xn [0,1,4] rfl ?_)|refine W_seq ?_|refine W_region ?_|refine W_skip ?_|refine W_ret ?_|refine W_block ?_|refine W_exit ?_|refine W_cond_t rfl ?_|refine W_cond_f rfl ?_|(refine W_cond rfl (fun hc => ?_) (fun hc => ?_) <;> (try simp only [HCl] at hc) <;> (try (exfalso;omega))))
  refine ⟨_, _, rfl, rfl, ?_⟩; simp [Frz_tup, Frz_ag, Frzs_cons, Frzs_nil, Frz_d, Frz_e0, Frz_sl, sln, isSl, slOk]
def pingM : Msg := ⟨2, 1048577, 1, 2, 0, false, false, 0, 0, [], zeroI, 0⟩
theorem ping_fn : Go.Gar.Fn Tryz.prog 16 [] pingM.d := by
  refine Fn_of_W eok Tryz.func16 rfl rfl (Nat.le_of_ble_eq_true rfl) ?_
  have nS := True.intro
  repeat' (first|((with_reducible refine sg ?_);first|with_reducible rfl|((with_reducible refine fitG ?_);first|kernel_rfl|rfl|(simp [fitT,fitF,nS];done))|with_reducible refine andT ?_ ?_|with_reducible exact Nat.beq_refl _|with_reducible exact fitsI_u8 _|((with_reducible refine decide_eq_true ?_);first|omega|(simp only [SZl,nS];omega))|decide|(simp [SZl,slc,allOneD,D.one,allOne,AV.one,nS];done)|(simp [SZl,nS];omega))|((with_reducible refine gWl ?_);first|(refine Wl_isMv rfl ?_;refine Xmv eok rfl rfl rfl rfl ?_)|refine Xq eok rfl rfl rfl rfl ?_ ?_|refine Xn [0] rfl ?_|refine Xa eok rfl rfl rfl rfl rfl ?_ ?_|refine Xw eok rfl rfl rfl rfl ?_ ?_)|refine W_seq ?_|refine W_region ?_|refine W_skip ?_|refine W_ret ?_|refine W_block ?_|refine W_exit ?_|refine W_cond_t rfl ?_|refine W_cond_f rfl ?_|(refine W_cond rfl (fun hc => ?_) (fun hc => ?_) <;> (try simp only [HCl] at hc) <;> (try (exfalso;omega))))
  refine ⟨_, _, rfl, rfl, ?_⟩; simp [Frz_tup, Frz_ag, Frzs_cons, Frzs_nil, Frz_d, Frz_e0, Frz_sl, sln, isSl, slOk, pingM, Msg.d, Msg.cells, zeroI]
def greatM (m : Msg) : Bool := decide ((m.list.length : Int) > 40) || decide ((m.item.key.length : Int) > 300)
theorem great_fn (m : Msg) : Go.Gar.Fn Tryz.prog 4 [m.d] (.b (greatM m)) := by
  obtain ⟨k, c, s, d, ky, sl, dn, pl, pr, l, ⟨ik, iv, ir, ig⟩, co⟩ := m
  refine Fn_of_W eok Tryz.func4 rfl rfl (Nat.le_of_ble_eq_true rfl) ?_
  have nS := True.intro
  repeat' (first|((with_reducible refine sg ?_);first|with_reducible rfl|((with_reducible refine fitG ?_);first|kernel_rfl|rfl|(simp [fitT,fitF,nS];done))|with_reducible refine andT ?_ ?_|with_reducible exact Nat.beq_refl _|with_reducible exact fitsI_u8 _|((with_reducible refine decide_eq_true ?_);first|omega|(simp only [SZl,nS];omega))|decide|(simp [SZl,slc,allOneD,D.one,allOne,AV.one,nS];done)|(simp [SZl,nS];omega))|((with_reducible refine gWl ?_);first|(refine Wl_isMv rfl ?_;refine Xmv eok rfl rfl rfl rfl ?_)|refine Xq eok rfl rfl rfl rfl ?_ ?_|refine Xn [0,1,2] rfl ?_|refine Xa eok rfl rfl rfl rfl rfl ?_ ?_|refine Xs rfl rfl rfl ?_|(refine Xsplit rfl rfl (fun hc => ?_) (fun hc => ?_) <;> (fail_if_success (with_reducible first|exact tF hc|exact fT hc)) <;> (try simp only [HCl] at hc) <;> (try (exfalso;omega))))|refine W_seq ?_|refine W_region ?_|refine W_skip ?_|refine W_ret ?_|refine W_block ?_|refine W_exit ?_|refine W_cond_t rfl ?_|refine W_cond_f rfl ?_|(refine W_cond rfl (fun hc => ?_) (fun hc => ?_) <;> (try simp only [HCl] at hc) <;> (try (exfalso;omega))))
  all_goals (refine ⟨_, _, rfl, rfl, ?_⟩; simp_all [Frz, greatM] <;> omega)
theorem ping_right : pingM.right = true := by decide +kernel
theorem ping_pay : payB pingM = [1, 2, 3, 16, 0, 1, 1, 1, 1, 2] := by decide +kernel
theorem zero_right : zeroM.right = false := by decide +kernel
theorem read_0 : readS [0, 0, 0, 0] = (zeroM, 12) := by decide +kernel
theorem take_4 : takeM [71, 1, 0, 0] = (zeroM, 11) := by decide +kernel
theorem take_put {m : Msg} (h : m.right = true) : takeM (closeV (payB m)).1 = (m, 0) := by
  have := payB_len h
  unfold takeM
  rw [open_close (by omega)]
  simp only [if_true, read_put h]
set_option maxHeartbeats 4000000 in
theorem wakes7_fn : Go.Gar.Fn Tryz.prog 5 [] (.b true) := by
  have h1 := Payload_fn pingM (by decide)
  have h2 := Put_fn pingM (by decide)
  have h3 := Read_fn (payB pingM)
  have h4 := Take_fn (closeV (payB pingM)).1 (by rw [closeV_ok (by rw [ping_pay]; decide)]; simp [ping_pay, hdr_len, be4_len])
  have h5 := Put_fn zeroM (by decide)
  have h6 := Take_fn [71, 1, 0, 0] (by decide)
  have h7 := Read_fn [0, 0, 0, 0]
  have e1 : payS pingM = (payB pingM, 0) := by unfold payS; rw [ping_right]; rfl
  have e5 : putM zeroM = ([], 2) := by unfold putM; rw [zero_right]; rfl
  rw [e1] at h1
  rw [putM_ok ping_right] at h2
  rw [read_put ping_right] at h3
  rw [take_put ping_right] at h4
  rw [e5] at h5
  rw [take_4] at h6
  rw [read_0] at h7
  have hS := rSame_fn pingM pingM (by decide)
  have hs := same7_fn (payB pingM) [1, 2, 3, 16, 0, 1, 1, 1, 1, 2]
  rw [decide_eq_true rfl] at hS
  have hq : (payB pingM == [1, 2, 3, 16, 0, 1, 1, 1, 1, 2]) = true := by rw [ping_pay]; rfl
  rw [hq] at hs
  have hlen : ((closeV (payB pingM)).1.length : Int) = 18 := by
    rw [closeV_ok (by rw [ping_pay]; decide)]
    simp [ping_pay, hdr_len, be4_len]
  have hp := ping_fn
  have hm := Most_fn
  have f18 := eq_true' hlen
  clear e1 e5 hq
  generalize (closeV (payB pingM)).1 = B at *
  generalize payB pingM = P at *
  unfold Msg.d Msg.cells pingM at *
  simp only [zeroM, zeroI] at *
  refine Fn_of_W eok Tryz.func5 rfl rfl (Nat.le_of_ble_eq_true rfl) ?_
  have nS := f18
  repeat' (first|((with_reducible refine sg ?_);first|with_reducible rfl|((with_reducible refine fitG ?_);first|kernel_rfl|rfl|(simp [fitT,fitF,nS];done))|with_reducible refine andT ?_ ?_|with_reducible exact Nat.beq_refl _|with_reducible exact fitsI_u8 _|((with_reducible refine decide_eq_true ?_);first|omega|(simp only [SZl,nS];omega))|decide|(simp [SZl,slc,allOneD,D.one,allOne,AV.one,nS];done)|(simp [SZl,nS];omega))|((with_reducible refine gWl ?_);first|(refine Wl_isMv rfl ?_;refine Xmv eok rfl rfl rfl rfl ?_)|refine Xq eok rfl rfl rfl rfl ?_ ?_|refine Xn [0,1,2,3,4,5,6,7,8,10,12,14] rfl ?_|refine XF (hp) rfl rfl rfl rfl ?_|refine XF (hm) rfl rfl rfl rfl ?_|refine XF (h1) rfl rfl rfl rfl ?_|refine XF (h2) rfl rfl rfl rfl ?_|refine XF (h3) rfl rfl rfl rfl ?_|refine XF (h4) rfl rfl rfl rfl ?_|refine XF (h6) rfl rfl rfl rfl ?_|refine XF (h7) rfl rfl rfl rfl ?_|refine XF (hs) rfl rfl rfl rfl ?_|refine XF (hS) rfl rfl rfl rfl ?_|refine XFz (h5) rfl rfl rfl rfl (by first|(simp [AsD,Frzs,Frz,isSl,sln,slOk];done)|(repeat' (first|rfl|trivial|refine ⟨rfl,rfl,by simp [slOk]⟩|refine ⟨_,_,rfl,?_,?_⟩|refine ⟨_,rfl,?_⟩))) ?_|refine Xa eok rfl rfl rfl rfl rfl ?_ ?_|refine Xw eok rfl rfl rfl rfl ?_ ?_|refine Xs rfl rfl rfl ?_|(refine Xsplit rfl rfl (fun hc => ?_) (fun hc => ?_) <;> (fail_if_success (with_reducible first|exact tF hc|exact fT hc)) <;> (try simp only [HCl] at hc) <;> (try (exfalso;omega))))|((with_reducible refine gWd ?_);first|(refine Wd_isMv rfl ?_;refine Ymv eok rfl rfl (fun _ => rfl) rfl rfl ?_)|refine Yp eok rfl rfl (fun _ => rfl) rfl rfl ?_ ?_|refine Yq rfl rfl rfl rfl rfl ?_ ?_|refine Ys rfl rfl rfl rfl ?_|refine YF (hp) rfl rfl rfl rfl rfl ?_|refine YF (hm) rfl rfl rfl rfl rfl ?_|refine YF (h1) rfl rfl rfl rfl rfl ?_|refine YF (h2) rfl rfl rfl rfl rfl ?_|refine YF (h3) rfl rfl rfl rfl rfl ?_|refine YF (h4) rfl rfl rfl rfl rfl ?_|refine YF (h6) rfl rfl rfl rfl rfl ?_|refine YF (h7) rfl rfl rfl rfl rfl ?_|refine YF (hs) rfl rfl rfl rfl rfl ?_|refine YF (hS) rfl rfl rfl rfl rfl ?_|refine YFz (h5) rfl rfl rfl rfl rfl (by first|(simp [AsD,Frzs,Frz,isSl,sln,slOk];done)|(repeat' (first|rfl|trivial|refine ⟨rfl,rfl,by simp [slOk]⟩|refine ⟨_,_,rfl,?_,?_⟩|refine ⟨_,rfl,?_⟩))) ?_|refine Ya eok rfl rfl rfl rfl rfl rfl ?_ ?_|refine Yw eok rfl rfl rfl rfl rfl ?_ ?_|refine Yn [0,1,2,3,4,5,6,7,8,10,12,14] [] mixed eok (by kernel_rfl) True.intro rfl ?_|(refine Ysplit rfl rfl (fun hc => ?_) (fun hc => ?_) <;> (fail_if_success (with_reducible first|exact tF hc|exact fT hc)) <;> (try simp only [HCl] at hc) <;> (try (exfalso;omega))))|refine W_seq ?_|refine W_region ?_|refine W_any T.get ?_|refine W_skip ?_|refine W_ret ?_|refine W_block ?_|refine W_exit ?_|refine W_cond_t rfl ?_|refine W_cond_f rfl ?_|(refine W_cond rfl (fun hc => ?_) (fun hc => ?_) <;> (try simp only [HCl] at hc) <;> (try (exfalso;omega))))
  refine ⟨_, _, rfl, rfl, ?_⟩; simp [Frz_tup, Frz_ag, Frzs_cons, Frzs_nil, Frz_d, Frz_e0, Frz_sl, sln, isSl, slOk]
end Wi
end Go.Proofs.YtbpemnmpcljbpaaGreat
