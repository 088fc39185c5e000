/- Written by a program (pre.py) from the source of the same name. -/
/- The document's own Open, Read, Put, Take. -/
import Derived.Test.YtbpemnmpcljbpaaGreatWire3D
import Derived.Test.YtbpemnmpcljbpaaGreatFwE
set_option linter.unusedSimpArgs false
set_option linter.unusedVariables false
set_option linter.unnecessarySimpa false
namespace Go.Proofs.YtbpemnmpcljbpaaGreat
namespace Wi
open Go.Gar
set_option maxRecDepth 4000

set_option maxHeartbeats 4000000 in
theorem rOpen_fn (b : List UInt8) (hb : b.length < 70368744177664) : Go.Gar.Fn Tryz.prog 37 [.by b] (.tup [.by (openC b).1, .i .i64 (openC b).2]) := by
  rw [← openR_eq]
  refine Fn_of_W eok Tryz.func37 rfl rfl (Nat.le_of_ble_eq_true rfl) ?_
  by_cases h8 : b.length < 8
  · have e : openR b = ([], 11) := if_pos h8
    have nS := True.intro
    repeat' (first|((with_reducible refine sg ?_);first|with_reducible rfl|((with_reducible refine fitG ?_);first|kernel_rfl|rfl|(simp [fitT,fitF,nS];done))|with_reducible refine andT ?_ ?_|with_reducible exact Nat.beq_refl _|with_reducible exact fitsI_u8 _|((with_reducible refine decide_eq_true ?_);first|omega|(simp only [SZl,nS];omega))|decide|(simp [SZl,slc,allOneD,D.one,allOne,AV.one,nS];done)|(simp [SZl,nS];omega))|((with_reducible refine gWl ?_);first|(refine Wl_isMv rfl ?_;refine Xmv eok rfl rfl rfl rfl ?_)|refine Xq eok rfl rfl rfl rfl ?_ ?_|refine Xn [0,2,3,4,5,6,9,30] rfl ?_|refine Xw eok rfl rfl rfl rfl ?_ ?_|refine Xs rfl rfl rfl ?_|(refine Xsplit rfl rfl (fun hc => ?_) (fun hc => ?_) <;> (fail_if_success (with_reducible first|exact tF hc|exact fT hc)) <;> (try simp only [HCl] at hc) <;> (try (exfalso;omega))))|refine W_seq ?_|refine W_region ?_|refine W_skip ?_|refine W_ret ?_|refine W_block ?_|refine W_exit ?_|refine W_cond_t rfl ?_|refine W_cond_f rfl ?_|(refine W_cond rfl (fun hc => ?_) (fun hc => ?_) <;> (try simp only [HCl] at hc) <;> (try (exfalso;omega))))
    refine ⟨_, _, rfl, rfl, ?_⟩; simp [Frz_tup, Frz_ag, Frzs_cons, Frzs_nil, Frz_d, Frz_e0, Frz_sl, sln, isSl, slOk, e]
  have e1 : ((b.length : Int) - 4).toNat = b.length - 4 := by omega
  have hc := rClose_fn ((b.take (b.length - 4)).drop 4)
  have e0 : openR b = if (closeV ((b.take (b.length - 4)).drop 4)).2 = 0 ∧ (closeV ((b.take (b.length - 4)).drop 4)).1 = b then ((b.take (b.length - 4)).drop 4, 0) else ([], 12) := if_neg h8
  have nS := e1
  repeat' (first|((with_reducible refine sg ?_);first|with_reducible rfl|((with_reducible refine fitG ?_);first|kernel_rfl|rfl|(simp [fitT,fitF,nS];done))|with_reducible refine andT ?_ ?_|with_reducible exact Nat.beq_refl _|with_reducible exact fitsI_u8 _|((with_reducible refine decide_eq_true ?_);first|omega|(simp only [SZl,nS];omega))|decide|(simp [SZl,slc,allOneD,D.one,allOne,AV.one,nS];done)|(simp [SZl,nS];omega))|((with_reducible refine gWl ?_);first|(refine Wl_isMv rfl ?_;refine Xmv eok rfl rfl rfl rfl ?_)|refine Xq eok rfl rfl rfl rfl ?_ ?_|refine Xn [0,2,3,4,5,6,9,30] rfl ?_|refine Xw eok rfl rfl rfl rfl ?_ ?_|refine Xs rfl rfl rfl ?_|(refine Xsplit rfl rfl (fun hc => ?_) (fun hc => ?_) <;> (fail_if_success (with_reducible first|exact tF hc|exact fT hc)) <;> (try simp only [HCl] at hc) <;> (try (exfalso;omega))))|refine W_seq ?_|refine W_region ?_|refine W_skip ?_|refine W_ret ?_|refine W_block ?_|refine W_exit ?_|refine W_cond_t rfl ?_|refine W_cond_f rfl ?_|(refine W_cond rfl (fun hc => ?_) (fun hc => ?_) <;> (try simp only [HCl] at hc) <;> (try (exfalso;omega))))
  generalize hp : (b.take (b.length - 4)).drop 4 = p at *
  by_cases hz : (closeV p).2 = 0
  · have f := ne_false hz
    by_cases hq : (closeV p).1 = b
    · have e : openR b = (p, 0) := by rw [e0, if_pos ⟨hz, hq⟩]
      have f2 : ((closeV p).1 == b) = true := by simp [hq]
      have nS := And.intro f f2
      repeat' (first|((with_reducible refine sg ?_);first|with_reducible rfl|((with_reducible refine fitG ?_);first|kernel_rfl|rfl|(simp [fitT,fitF,nS];done))|with_reducible refine andT ?_ ?_|with_reducible exact Nat.beq_refl _|with_reducible exact fitsI_u8 _|((with_reducible refine decide_eq_true ?_);first|omega|(simp only [SZl,nS];omega))|decide|(simp [SZl,slc,allOneD,D.one,allOne,AV.one,nS];done)|(simp [SZl,nS];omega))|((with_reducible refine gWl ?_);first|(refine Wl_isMv rfl ?_;refine Xmv eok rfl rfl rfl rfl ?_)|refine Xq eok rfl rfl rfl rfl ?_ ?_|refine Xn [0,2,3,4,5,6,9,30] rfl ?_|refine XF (hc) rfl rfl rfl rfl ?_|refine Xw eok rfl rfl rfl rfl ?_ ?_|refine Xs rfl rfl rfl ?_|(refine Xsplit rfl rfl (fun hc => ?_) (fun hc => ?_) <;> (fail_if_success (with_reducible first|exact tF hc|exact fT hc)) <;> (try simp only [HCl] at hc) <;> (try (exfalso;omega))))|refine W_seq ?_|refine W_region ?_|refine W_skip ?_|refine W_ret ?_|refine W_block ?_|refine W_exit ?_|refine W_cond_t rfl ?_|refine W_cond_f rfl ?_|(refine W_cond rfl (fun hc => ?_) (fun hc => ?_) <;> (try simp only [HCl] at hc) <;> (try (exfalso;omega))))
      refine ⟨_, _, rfl, rfl, ?_⟩; simp [Frz_tup, Frz_ag, Frzs_cons, Frzs_nil, Frz_d, Frz_e0, Frz_sl, sln, isSl, slOk, e]
    · have e : openR b = ([], 12) := by rw [e0, if_neg (fun h => hq h.2)]
      have f2 : ((closeV p).1 == b) = false := by simp [hq]
      have nS := And.intro f f2
      repeat' (first|((with_reducible refine sg ?_);first|with_reducible rfl|((with_reducible refine fitG ?_);first|kernel_rfl|rfl|(simp [fitT,fitF,nS];done))|with_reducible refine andT ?_ ?_|with_reducible exact Nat.beq_refl _|with_reducible exact fitsI_u8 _|((with_reducible refine decide_eq_true ?_);first|omega|(simp only [SZl,nS];omega))|decide|(simp [SZl,slc,allOneD,D.one,allOne,AV.one,nS];done)|(simp [SZl,nS];omega))|((with_reducible refine gWl ?_);first|(refine Wl_isMv rfl ?_;refine Xmv eok rfl rfl rfl rfl ?_)|refine Xq eok rfl rfl rfl rfl ?_ ?_|refine Xn [0,2,3,4,5,6,9,30] rfl ?_|refine XF (hc) rfl rfl rfl rfl ?_|refine Xw eok rfl rfl rfl rfl ?_ ?_|refine Xs rfl rfl rfl ?_|(refine Xsplit rfl rfl (fun hc => ?_) (fun hc => ?_) <;> (fail_if_success (with_reducible first|exact tF hc|exact fT hc)) <;> (try simp only [HCl] at hc) <;> (try (exfalso;omega))))|refine W_seq ?_|refine W_region ?_|refine W_skip ?_|refine W_ret ?_|refine W_block ?_|refine W_exit ?_|refine W_cond_t rfl ?_|refine W_cond_f rfl ?_|(refine W_cond rfl (fun hc => ?_) (fun hc => ?_) <;> (try simp only [HCl] at hc) <;> (try (exfalso;omega))))
      refine ⟨_, _, rfl, rfl, ?_⟩; simp [Frz_tup, Frz_ag, Frzs_cons, Frzs_nil, Frz_d, Frz_e0, Frz_sl, sln, isSl, slOk, e]
  · have e : openR b = ([], 12) := by rw [e0, if_neg (fun h => hz h.1)]
    have f := ne_true hz
    have nS := f
    repeat' (first|((with_reducible refine sg ?_);first|with_reducible rfl|((with_reducible refine fitG ?_);first|kernel_rfl|rfl|(simp [fitT,fitF,nS];done))|with_reducible refine andT ?_ ?_|with_reducible exact Nat.beq_refl _|with_reducible exact fitsI_u8 _|((with_reducible refine decide_eq_true ?_);first|omega|(simp only [SZl,nS];omega))|decide|(simp [SZl,slc,allOneD,D.one,allOne,AV.one,nS];done)|(simp [SZl,nS];omega))|((with_reducible refine gWl ?_);first|(refine Wl_isMv rfl ?_;refine Xmv eok rfl rfl rfl rfl ?_)|refine Xq eok rfl rfl rfl rfl ?_ ?_|refine Xn [0,2,3,4,5,6,9,30] rfl ?_|refine XF (hc) rfl rfl rfl rfl ?_|refine Xw eok rfl rfl rfl rfl ?_ ?_|refine Xs rfl rfl rfl ?_|(refine Xsplit rfl rfl (fun hc => ?_) (fun hc => ?_) <;> (fail_if_success (with_reducible first|exact tF hc|exact fT hc)) <;> (try simp only [HCl] at hc) <;> (try (exfalso;omega))))|refine W_seq ?_|refine W_region ?_|refine W_skip ?_|refine W_ret ?_|refine W_block ?_|refine W_exit ?_|refine W_cond_t rfl ?_|refine W_cond_f rfl ?_|(refine W_cond rfl (fun hc => ?_) (fun hc => ?_) <;> (try simp only [HCl] at hc) <;> (try (exfalso;omega))))
    refine ⟨_, _, rfl, rfl, ?_⟩; simp [Frz_tup, Frz_ag, Frzs_cons, Frzs_nil, Frz_d, Frz_e0, Frz_sl, sln, isSl, slOk, e]
set_option maxHeartbeats 4000000 in
theorem rRead_fn (b : List UInt8) (hb : b.length < 70368744177664) : Go.Gar.Fn Tryz.prog 9 [.by b] (.tup [(readS b).1.d, .i .i64 (readS b).2]) := by
  rw [← readR_eq]
  have hn := numbers7_fn b 4 hb (by decide)
  have hg := @nums_get 4 b
  have hln := @numsP_len 4 b
  refine Fn_of_W eok Tryz.func9 rfl rfl (Nat.le_of_ble_eq_true rfl) ?_
  cases hp : numsP 4 b with
  | none =>
    have e : readR b = (zeroM, 12) := by unfold readR; rw [hp]
    rw [hp] at hn
    unfold numsR at hn
    unfold Msg.d Msg.cells
    have nS := True.intro
    repeat' (first|((with_reducible refine sg ?_);first|with_reducible rfl|((with_reducible refine fitG ?_);first|kernel_rfl|rfl|(simp [fitT,fitF,nS];done))|with_reducible refine andT ?_ ?_|with_reducible exact Nat.beq_refl _|with_reducible exact fitsI_u8 _|((with_reducible refine decide_eq_true ?_);first|omega|(simp only [SZl,nS];omega))|decide|(simp [SZl,slc,allOneD,D.one,allOne,AV.one,nS];done)|(simp [SZl,nS];omega))|((with_reducible refine gWl ?_);first|(refine Wl_isMv rfl ?_;refine Xmv eok rfl rfl rfl rfl ?_)|refine Xq eok rfl rfl rfl rfl ?_ ?_|refine Xn [0,2,3,4,5,6,7,8,9,10,24,46,61] rfl ?_|refine XF (hn) rfl rfl rfl rfl ?_|refine Xa eok rfl rfl rfl rfl rfl ?_ ?_|refine Xw eok rfl rfl rfl rfl ?_ ?_|refine Xs rfl rfl rfl ?_|(refine Xsplit rfl rfl (fun hc => ?_) (fun hc => ?_) <;> (fail_if_success (with_reducible first|exact tF hc|exact fT hc)) <;> (try simp only [HCl] at hc) <;> (try (exfalso;omega))))|((with_reducible refine gWd ?_);first|(refine Wd_isMv rfl ?_;refine Ymv eok rfl rfl (fun _ => rfl) rfl rfl ?_)|refine Yp eok rfl rfl (fun _ => rfl) rfl rfl ?_ ?_|refine Yq rfl rfl rfl rfl rfl ?_ ?_|refine Ys rfl rfl rfl rfl ?_|refine YF (hn) rfl rfl rfl rfl rfl ?_|refine Ya eok rfl rfl rfl rfl rfl rfl ?_ ?_|refine Yw eok rfl rfl rfl rfl rfl ?_ ?_|refine Yn [0,2,3,4,5,6,7,8,9,10,24,46,61] [] mixed eok (by kernel_rfl) True.intro rfl ?_|(refine Ysplit rfl rfl (fun hc => ?_) (fun hc => ?_) <;> (fail_if_success (with_reducible first|exact tF hc|exact fT hc)) <;> (try simp only [HCl] at hc) <;> (try (exfalso;omega))))|refine W_seq ?_|refine W_region ?_|refine W_any T.get ?_|refine W_skip ?_|refine W_ret ?_|refine W_block ?_|refine W_exit ?_|refine W_cond_t rfl ?_|refine W_cond_f rfl ?_|(refine W_cond rfl (fun hc => ?_) (fun hc => ?_) <;> (try simp only [HCl] at hc) <;> (try (exfalso;omega))))
    refine ⟨_, _, rfl, rfl, ?_⟩; simp [Frz_tup, Frz_ag, Frzs_cons, Frzs_nil, Frz_d, Frz_e0, Frz_sl, sln, isSl, slOk, e, zeroM, zeroI]
  | some p =>
    obtain ⟨l, r⟩ := p
    obtain ⟨hl1, hl2⟩ := hln hp
    have hg := hg hp
    obtain ⟨k, c, s, d, rfl⟩ : ∃ k c s d, l = [k, c, s, d] := by
      rcases l with _ | ⟨k, _ | ⟨c, _ | ⟨s, _ | ⟨d, _ | ⟨x, t⟩⟩⟩⟩⟩ <;> first | exact ⟨_, _, _, _, rfl⟩ | (simp at hl1)
    have hk := hg k (by simp)
    rw [hp] at hn
    unfold numsR at hn
    by_cases h13 : k ≥ 13
    · have e : readR b = (zeroM, 12) := by unfold readR; rw [hp]; exact if_pos h13
      unfold Msg.d Msg.cells
      have nS := True.intro
      repeat' (first|((with_reducible refine sg ?_);first|with_reducible rfl|((with_reducible refine fitG ?_);first|kernel_rfl|rfl|(simp [fitT,fitF,nS];done))|with_reducible refine andT ?_ ?_|with_reducible exact Nat.beq_refl _|with_reducible exact fitsI_u8 _|((with_reducible refine decide_eq_true ?_);first|omega|(simp only [SZl,nS];omega))|decide|(simp [SZl,slc,allOneD,D.one,allOne,AV.one,nS];done)|(simp [SZl,nS];omega))|((with_reducible refine gWl ?_);first|(refine Wl_isMv rfl ?_;refine Xmv eok rfl rfl rfl rfl ?_)|refine Xq eok rfl rfl rfl rfl ?_ ?_|refine Xn [0,2,3,4,5,6,7,8,9,10,24,46,61] rfl ?_|refine XF (hn) rfl rfl rfl rfl ?_|refine Xa eok rfl rfl rfl rfl rfl ?_ ?_|refine Xw eok rfl rfl rfl rfl ?_ ?_|refine Xs rfl rfl rfl ?_|(refine Xsplit rfl rfl (fun hc => ?_) (fun hc => ?_) <;> (fail_if_success (with_reducible first|exact tF hc|exact fT hc)) <;> (try simp only [HCl] at hc) <;> (try (exfalso;omega))))|((with_reducible refine gWd ?_);first|(refine Wd_isMv rfl ?_;refine Ymv eok rfl rfl (fun _ => rfl) rfl rfl ?_)|refine Yp eok rfl rfl (fun _ => rfl) rfl rfl ?_ ?_|refine Yq rfl rfl rfl rfl rfl ?_ ?_|refine Ys rfl rfl rfl rfl ?_|refine YF (hn) rfl rfl rfl rfl rfl ?_|refine Ya eok rfl rfl rfl rfl rfl rfl ?_ ?_|refine Yw eok rfl rfl rfl rfl rfl ?_ ?_|refine Yn [0,2,3,4,5,6,7,8,9,10,24,46,61] [] mixed eok (by kernel_rfl) True.intro rfl ?_|(refine Ysplit rfl rfl (fun hc => ?_) (fun hc => ?_) <;> (fail_if_success (with_reducible first|exact tF hc|exact fT hc)) <;> (try simp only [HCl] at hc) <;> (try (exfalso;omega))))|refine W_seq ?_|refine W_region ?_|refine W_any T.get ?_|refine W_skip ?_|refine W_ret ?_|refine W_block ?_|refine W_exit ?_|refine W_cond_t rfl ?_|refine W_cond_f rfl ?_|(refine W_cond rfl (fun hc => ?_) (fun hc => ?_) <;> (try simp only [HCl] at hc) <;> (try (exfalso;omega))))
      refine ⟨_, _, rfl, rfl, ?_⟩; simp [Frz_tup, Frz_ag, Frzs_cons, Frzs_nil, Frz_d, Frz_e0, Frz_sl, sln, isSl, slOk, e, zeroM, zeroI]
    have ek : k % 256 = k := by omega
    have hm := more7_fn ⟨k, c, s, d, 0, false, false, 0, 0, [], zeroI, 0⟩ r (by omega)
    have hl := moreS_list ⟨k, c, s, d, 0, false, false, 0, 0, [], zeroI, 0⟩ r (Nat.zero_le _)
    have e0 : readR b = if (moreS ⟨k, c, s, d, 0, false, false, 0, 0, [], zeroI, 0⟩ r).2 = true ∧ (moreS ⟨k, c, s, d, 0, false, false, 0, 0, [], zeroI, 0⟩ r).1.right = true ∧ payB (moreS ⟨k, c, s, d, 0, false, false, 0, 0, [], zeroI, 0⟩ r).1 = b then ((moreS ⟨k, c, s, d, 0, false, false, 0, 0, [], zeroI, 0⟩ r).1, 0) else (zeroM, 12) := by
      unfold readR; rw [hp]; exact if_neg h13
    rcases hM : moreS ⟨k, c, s, d, 0, false, false, 0, 0, [], zeroI, 0⟩ r with ⟨m, is⟩
    rw [hM] at hm hl e0
    simp only at hl e0
    have hP := rPayload_fn m (by omega)
    unfold payS at hP
    cases is with
    | false =>
      have e : readR b = (zeroM, 12) := by rw [e0, if_neg (fun h => Bool.noConfusion h.1)]
      unfold Msg.d Msg.cells at *
      simp only [zeroI] at hm
      have nS := ek
      repeat' (first|((with_reducible refine sg ?_);first|with_reducible rfl|((with_reducible refine fitG ?_);first|kernel_rfl|rfl|(simp [fitT,fitF,nS];done))|with_reducible refine andT ?_ ?_|with_reducible exact Nat.beq_refl _|with_reducible exact fitsI_u8 _|((with_reducible refine decide_eq_true ?_);first|omega|(simp only [SZl,nS];omega))|decide|(simp [SZl,slc,allOneD,D.one,allOne,AV.one,nS];done)|(simp [SZl,nS];omega))|((with_reducible refine gWl ?_);first|(refine Wl_isMv rfl ?_;refine Xmv eok rfl rfl rfl rfl ?_)|refine Xq eok rfl rfl rfl rfl ?_ ?_|refine Xn [0,2,3,4,5,6,7,8,9,10,24,46,61] rfl ?_|refine XF (hn) rfl rfl rfl rfl ?_|refine XFz (hm) rfl rfl rfl rfl (by first|(simp [AsD,Frzs,Frz,isSl,sln,slOk];done)|(repeat' (first|rfl|trivial|refine ⟨rfl,rfl,by simp [slOk]⟩|refine ⟨_,_,rfl,?_,?_⟩|refine ⟨_,rfl,?_⟩))) ?_|refine Xa eok rfl rfl rfl rfl rfl ?_ ?_|refine Xw eok rfl rfl rfl rfl ?_ ?_|refine Xs rfl rfl rfl ?_|(refine Xsplit rfl rfl (fun hc => ?_) (fun hc => ?_) <;> (fail_if_success (with_reducible first|exact tF hc|exact fT hc)) <;> (try simp only [HCl] at hc) <;> (try (exfalso;omega))))|((with_reducible refine gWd ?_);first|(refine Wd_isMv rfl ?_;refine Ymv eok rfl rfl (fun _ => rfl) rfl rfl ?_)|refine Yp eok rfl rfl (fun _ => rfl) rfl rfl ?_ ?_|refine Yq rfl rfl rfl rfl rfl ?_ ?_|refine Ys rfl rfl rfl rfl ?_|refine YF (hn) rfl rfl rfl rfl rfl ?_|refine YFz (hm) rfl rfl rfl rfl rfl (by first|(simp [AsD,Frzs,Frz,isSl,sln,slOk];done)|(repeat' (first|rfl|trivial|refine ⟨rfl,rfl,by simp [slOk]⟩|refine ⟨_,_,rfl,?_,?_⟩|refine ⟨_,rfl,?_⟩))) ?_|refine Ya eok rfl rfl rfl rfl rfl rfl ?_ ?_|refine Yw eok rfl rfl rfl rfl rfl ?_ ?_|refine Yn [0,2,3,4,5,6,7,8,9,10,24,46,61] [] mixed eok (by kernel_rfl) True.intro rfl ?_|(refine Ysplit rfl rfl (fun hc => ?_) (fun hc => ?_) <;> (fail_if_success (with_reducible first|exact tF hc|exact fT hc)) <;> (try simp only [HCl] at hc) <;> (try (exfalso;omega))))|refine W_seq ?_|refine W_region ?_|refine W_any T.get ?_|refine W_skip ?_|refine W_ret ?_|refine W_block ?_|refine W_exit ?_|refine W_cond_t rfl ?_|refine W_cond_f rfl ?_|(refine W_cond rfl (fun hc => ?_) (fun hc => ?_) <;> (try simp only [HCl] at hc) <;> (try (exfalso;omega))))
      refine ⟨_, _, rfl, rfl, ?_⟩; simp [Frz_tup, Frz_ag, Frzs_cons, Frzs_nil, Frz_d, Frz_e0, Frz_sl, sln, isSl, slOk, e, zeroM, zeroI]
    | true =>
      cases hr : m.right with
      | false =>
        have e : readR b = (zeroM, 12) := by rw [e0, if_neg (fun h => by rw [hr] at h; exact Bool.noConfusion h.2.1)]
        rw [hr, if_neg (by decide)] at hP
        unfold Msg.d Msg.cells at *
        simp only [zeroI] at hm
        have nS := ek
        repeat' (first|((with_reducible refine sg ?_);first|with_reducible rfl|((with_reducible refine fitG ?_);first|kernel_rfl|rfl|(simp [fitT,fitF,nS];done))|with_reducible refine andT ?_ ?_|with_reducible exact Nat.beq_refl _|with_reducible exact fitsI_u8 _|((with_reducible refine decide_eq_true ?_);first|omega|(simp only [SZl,nS];omega))|decide|(simp [SZl,slc,allOneD,D.one,allOne,AV.one,nS];done)|(simp [SZl,nS];omega))|((with_reducible refine gWl ?_);first|(refine Wl_isMv rfl ?_;refine Xmv eok rfl rfl rfl rfl ?_)|refine Xq eok rfl rfl rfl rfl ?_ ?_|refine Xn [0,2,3,4,5,6,7,8,9,10,24,46,61] rfl ?_|refine XF (hn) rfl rfl rfl rfl ?_|refine XF (hP) rfl rfl rfl rfl ?_|refine XFz (hm) rfl rfl rfl rfl (by first|(simp [AsD,Frzs,Frz,isSl,sln,slOk];done)|(repeat' (first|rfl|trivial|refine ⟨rfl,rfl,by simp [slOk]⟩|refine ⟨_,_,rfl,?_,?_⟩|refine ⟨_,rfl,?_⟩))) ?_|refine Xa eok rfl rfl rfl rfl rfl ?_ ?_|refine Xw eok rfl rfl rfl rfl ?_ ?_|refine Xs rfl rfl rfl ?_|(refine Xsplit rfl rfl (fun hc => ?_) (fun hc => ?_) <;> (fail_if_success (with_reducible first|exact tF hc|exact fT hc)) <;> (try simp only [HCl] at hc) <;> (try (exfalso;omega))))|((with_reducible refine gWd ?_);first|(refine Wd_isMv rfl ?_;refine Ymv eok rfl rfl (fun _ => rfl) rfl rfl ?_)|refine Yp eok rfl rfl (fun _ => rfl) rfl rfl ?_ ?_|refine Yq rfl rfl rfl rfl rfl ?_ ?_|refine Ys rfl rfl rfl rfl ?_|refine YF (hn) rfl rfl rfl rfl rfl ?_|refine YF (hP) rfl rfl rfl rfl rfl ?_|refine YFz (hm) rfl rfl rfl rfl rfl (by first|(simp [AsD,Frzs,Frz,isSl,sln,slOk];done)|(repeat' (first|rfl|trivial|refine ⟨rfl,rfl,by simp [slOk]⟩|refine ⟨_,_,rfl,?_,?_⟩|refine ⟨_,rfl,?_⟩))) ?_|refine Ya eok rfl rfl rfl rfl rfl rfl ?_ ?_|refine Yw eok rfl rfl rfl rfl rfl ?_ ?_|refine Yn [0,2,3,4,5,6,7,8,9,10,24,46,61] [] mixed eok (by kernel_rfl) True.intro rfl ?_|(refine Ysplit rfl rfl (fun hc => ?_) (fun hc => ?_) <;> (fail_if_success (with_reducible first|exact tF hc|exact fT hc)) <;> (try simp only [HCl] at hc) <;> (try (exfalso;omega))))|refine W_seq ?_|refine W_region ?_|refine W_any T.get ?_|refine W_skip ?_|refine W_ret ?_|refine W_block ?_|refine W_exit ?_|refine W_cond_t rfl ?_|refine W_cond_f rfl ?_|(refine W_cond rfl (fun hc => ?_) (fun hc => ?_) <;> (try simp only [HCl] at hc) <;> (try (exfalso;omega))))
        refine ⟨_, _, rfl, rfl, ?_⟩; simp [Frz_tup, Frz_ag, Frzs_cons, Frzs_nil, Frz_d, Frz_e0, Frz_sl, sln, isSl, slOk, e, zeroM, zeroI]
      | true =>
        rw [hr, if_pos rfl] at hP
        by_cases hq : payB m = b
        · have e : readR b = (m, 0) := by rw [e0, if_pos ⟨rfl, hr, hq⟩]
          have f2 : (payB m == b) = true := by simp [hq]
          unfold Msg.d Msg.cells at *
          simp only [zeroI] at hm
          have nS := And.intro ek f2
          repeat' (first|((with_reducible refine sg ?_);first|with_reducible rfl|((with_reducible refine fitG ?_);first|kernel_rfl|rfl|(simp [fitT,fitF,nS];done))|with_reducible refine andT ?_ ?_|with_reducible exact Nat.beq_refl _|with_reducible exact fitsI_u8 _|((with_reducible refine decide_eq_true ?_);first|omega|(simp only [SZl,nS];omega))|decide|(simp [SZl,slc,allOneD,D.one,allOne,AV.one,nS];done)|(simp [SZl,nS];omega))|((with_reducible refine gWl ?_);first|(refine Wl_isMv rfl ?_;refine Xmv eok rfl rfl rfl rfl ?_)|refine Xq eok rfl rfl rfl rfl ?_ ?_|refine Xn [0,2,3,4,5,6,7,8,9,10,24,46,61] rfl ?_|refine XF (hn) rfl rfl rfl rfl ?_|refine XF (hP) rfl rfl rfl rfl ?_|refine XFz (hm) rfl rfl rfl rfl (by first|(simp [AsD,Frzs,Frz,isSl,sln,slOk];done)|(repeat' (first|rfl|trivial|refine ⟨rfl,rfl,by simp [slOk]⟩|refine ⟨_,_,rfl,?_,?_⟩|refine ⟨_,rfl,?_⟩))) ?_|refine Xa eok rfl rfl rfl rfl rfl ?_ ?_|refine Xw eok rfl rfl rfl rfl ?_ ?_|refine Xs rfl rfl rfl ?_|(refine Xsplit rfl rfl (fun hc => ?_) (fun hc => ?_) <;> (fail_if_success (with_reducible first|exact tF hc|exact fT hc)) <;> (try simp only [HCl] at hc) <;> (try (exfalso;omega))))|((with_reducible refine gWd ?_);first|(refine Wd_isMv rfl ?_;refine Ymv eok rfl rfl (fun _ => rfl) rfl rfl ?_)|refine Yp eok rfl rfl (fun _ => rfl) rfl rfl ?_ ?_|refine Yq rfl rfl rfl rfl rfl ?_ ?_|refine Ys rfl rfl rfl rfl ?_|refine YF (hn) rfl rfl rfl rfl rfl ?_|refine YF (hP) rfl rfl rfl rfl rfl ?_|refine YFz (hm) rfl rfl rfl rfl rfl (by first|(simp [AsD,Frzs,Frz,isSl,sln,slOk];done)|(repeat' (first|rfl|trivial|refine ⟨rfl,rfl,by simp [slOk]⟩|refine ⟨_,_,rfl,?_,?_⟩|refine ⟨_,rfl,?_⟩))) ?_|refine Ya eok rfl rfl rfl rfl rfl rfl ?_ ?_|refine Yw eok rfl rfl rfl rfl rfl ?_ ?_|refine Yn [0,2,3,4,5,6,7,8,9,10,24,46,61] [] mixed eok (by kernel_rfl) True.intro rfl ?_|(refine Ysplit rfl rfl (fun hc => ?_) (fun hc => ?_) <;> (fail_if_success (with_reducible first|exact tF hc|exact fT hc)) <;> (try simp only [HCl] at hc) <;> (try (exfalso;omega))))|refine W_seq ?_|refine W_region ?_|refine W_any T.get ?_|refine W_skip ?_|refine W_ret ?_|refine W_block ?_|refine W_exit ?_|refine W_cond_t rfl ?_|refine W_cond_f rfl ?_|(refine W_cond rfl (fun hc => ?_) (fun hc => ?_) <;> (try simp only [HCl] at hc) <;> (try (exfalso;omega))))
          refine ⟨_, _, rfl, rfl, ?_⟩; simp [Frz_tup, Frz_ag, Frzs_cons, Frzs_nil, Frz_d, Frz_e0, Frz_sl, sln, isSl, slOk, e]
        · have e : readR b = (zeroM, 12) := by rw [e0, if_neg (fun h => hq h.2.2)]
          have f2 : (payB m == b) = false := by simp [hq]
          unfold Msg.d Msg.cells at *
          simp only [zeroI] at hm
          have nS := And.intro ek f2
          repeat' (first|((with_reducible refine sg ?_);first|with_reducible rfl|((with_reducible refine fitG ?_);first|kernel_rfl|rfl|(simp [fitT,fitF,nS];done))|with_reducible refine andT ?_ ?_|with_reducible exact Nat.beq_refl _|with_reducible exact fitsI_u8 _|((with_reducible refine decide_eq_true ?_);first|omega|(simp only [SZl,nS];omega))|decide|(simp [SZl,slc,allOneD,D.one,allOne,AV.one,nS];done)|(simp [SZl,nS];omega))|((with_reducible refine gWl ?_);first|(refine Wl_isMv rfl ?_;refine Xmv eok rfl rfl rfl rfl ?_)|refine Xq eok rfl rfl rfl rfl ?_ ?_|refine Xn [0,2,3,4,5,6,7,8,9,10,24,46,61] rfl ?_|refine XF (hn) rfl rfl rfl rfl ?_|refine XF (hP) rfl rfl rfl rfl ?_|refine XFz (hm) rfl rfl rfl rfl (by first|(simp [AsD,Frzs,Frz,isSl,sln,slOk];done)|(repeat' (first|rfl|trivial|refine ⟨rfl,rfl,by simp [slOk]⟩|refine ⟨_,_,rfl,?_,?_⟩|refine ⟨_,rfl,?_⟩))) ?_|refine Xa eok rfl rfl rfl rfl rfl ?_ ?_|refine Xw eok rfl rfl rfl rfl ?_ ?_|refine Xs rfl rfl rfl ?_|(refine Xsplit rfl rfl (fun hc => ?_) (fun hc => ?_) <;> (fail_if_success (with_reducible first|exact tF hc|exact fT hc)) <;> (try simp only [HCl] at hc) <;> (try (exfalso;omega))))|((with_reducible refine gWd ?_);first|(refine Wd_isMv rfl ?_;refine Ymv eok rfl rfl (fun _ => rfl) rfl rfl ?_)|refine Yp eok rfl rfl (fun _ => rfl) rfl rfl ?_ ?_|refine Yq rfl rfl rfl rfl rfl ?_ ?_|refine Ys rfl rfl rfl rfl ?_|refine YF (hn) rfl rfl rfl rfl rfl ?_|refine YF (hP) rfl rfl rfl rfl rfl ?_|refine YFz (hm) rfl rfl rfl rfl rfl (by first|(simp [AsD,Frzs,Frz,isSl,sln,slOk];done)|(repeat' (first|rfl|trivial|refine ⟨rfl,rfl,by simp [slOk]⟩|refine ⟨_,_,rfl,?_,?_⟩|refine ⟨_,rfl,?_⟩))) ?_|refine Ya eok rfl rfl rfl rfl rfl rfl ?_ ?_|refine Yw eok rfl rfl rfl rfl rfl ?_ ?_|refine Yn [0,2,3,4,5,6,7,8,9,10,24,46,61] [] mixed eok (by kernel_rfl) True.intro rfl ?_|(refine Ysplit rfl rfl (fun hc => ?_) (fun hc => ?_) <;> (fail_if_success (with_reducible first|exact tF hc|exact fT hc)) <;> (try simp only [HCl] at hc) <;> (try (exfalso;omega))))|refine W_seq ?_|refine W_region ?_|refine W_any T.get ?_|refine W_skip ?_|refine W_ret ?_|refine W_block ?_|refine W_exit ?_|refine W_cond_t rfl ?_|refine W_cond_f rfl ?_|(refine W_cond rfl (fun hc => ?_) (fun hc => ?_) <;> (try simp only [HCl] at hc) <;> (try (exfalso;omega))))
          refine ⟨_, _, rfl, rfl, ?_⟩; simp [Frz_tup, Frz_ag, Frzs_cons, Frzs_nil, Frz_d, Frz_e0, Frz_sl, sln, isSl, slOk, e, zeroM, zeroI]
theorem rPut_fn7 (m : Msg) (hl : m.list.length < 9223372036854775807) : Go.Gar.Fn Tryz.prog 13 [m.d] (.tup [.by (putM m).1, .i .i64 (putM m).2]) := by
  have hP := rPayload_fn m hl
  cases h : m.right with
  | false =>
    have e : putM m = ([], 2) := by unfold putM; rw [h]; rfl
    have e2 : payS m = ([], 2) := by unfold payS; rw [h]; rfl
    rw [e2] at hP
    unfold Msg.d Msg.cells at *
    refine Fn_of_W eok Tryz.func13 rfl rfl (Nat.le_of_ble_eq_true rfl) ?_
    have nS := True.intro
    repeat' (first|((with_reducible refine sg ?_);first|with_reducible rfl|((with_reducible refine fitG ?_);first|kernel_rfl|rfl|(simp [fitT,fitF,nS];done))|with_reducible refine andT ?_ ?_|with_reducible exact Nat.beq_refl _|with_reducible exact fitsI_u8 _|((with_reducible refine decide_eq_true ?_);first|omega|(simp only [SZl,nS];omega))|decide|(simp [SZl,slc,allOneD,D.one,allOne,AV.one,nS];done)|(simp [SZl,nS];omega))|((with_reducible refine gWl ?_);first|(refine Wl_isMv rfl ?_;refine Xmv eok rfl rfl rfl rfl ?_)|refine Xq eok rfl rfl rfl rfl ?_ ?_|refine Xn [0,1,2,3,4,5,12] rfl ?_|refine XF (hP) rfl rfl rfl rfl ?_|refine Xa eok rfl rfl rfl rfl rfl ?_ ?_)|refine W_seq ?_|refine W_region ?_|refine W_skip ?_|refine W_ret ?_|refine W_block ?_|refine W_exit ?_|refine W_cond_t rfl ?_|refine W_cond_f rfl ?_|(refine W_cond rfl (fun hc => ?_) (fun hc => ?_) <;> (try simp only [HCl] at hc) <;> (try (exfalso;omega))))
    refine ⟨_, _, rfl, rfl, ?_⟩; simp [Frz_tup, Frz_ag, Frzs_cons, Frzs_nil, Frz_d, Frz_e0, Frz_sl, sln, isSl, slOk, e]
  | true =>
    have e : putM m = closeV (payB m) := by unfold putM; rw [h]; rfl
    have e2 : payS m = (payB m, 0) := by unfold payS; rw [h]; rfl
    have hC := rClose_fn (payB m)
    rw [e2] at hP
    unfold Msg.d Msg.cells at *
    refine Fn_of_W eok Tryz.func13 rfl rfl (Nat.le_of_ble_eq_true rfl) ?_
    have nS := True.intro
    repeat' (first|((with_reducible refine sg ?_);first|with_reducible rfl|((with_reducible refine fitG ?_);first|kernel_rfl|rfl|(simp [fitT,fitF,nS];done))|with_reducible refine andT ?_ ?_|with_reducible exact Nat.beq_refl _|with_reducible exact fitsI_u8 _|((with_reducible refine decide_eq_true ?_);first|omega|(simp only [SZl,nS];omega))|decide|(simp [SZl,slc,allOneD,D.one,allOne,AV.one,nS];done)|(simp [SZl,nS];omega))|((with_reducible refine gWl ?_);first|(refine Wl_isMv rfl ?_;refine Xmv eok rfl rfl rfl rfl ?_)|refine Xq eok rfl rfl rfl rfl ?_ ?_|refine Xn [0,1,2,3,4,5,12] rfl ?_|refine XF (hP) rfl rfl rfl rfl ?_|refine XF (hC) rfl rfl rfl rfl ?_|refine Xa eok rfl rfl rfl rfl rfl ?_ ?_)|refine W_seq ?_|refine W_region ?_|refine W_skip ?_|refine W_ret ?_|refine W_block ?_|refine W_exit ?_|refine W_cond_t rfl ?_|refine W_cond_f rfl ?_|(refine W_cond rfl (fun hc => ?_) (fun hc => ?_) <;> (try simp only [HCl] at hc) <;> (try (exfalso;omega))))
    refine ⟨_, _, rfl, rfl, ?_⟩; simp [Frz_tup, Frz_ag, Frzs_cons, Frzs_nil, Frz_d, Frz_e0, Frz_sl, sln, isSl, slOk, e]
theorem openC_len (b : List UInt8) : (openC b).1.length ≤ 112 := by
  obtain ⟨p, e, h⟩ : ∃ p e, openC b = (p, e) := ⟨_, _, rfl⟩
  rw [h]
  rcases open_get h with ⟨_, h2, _⟩ | ⟨_, _, h3⟩ | ⟨_, _, h3⟩
  · exact h2
  · rw [h3]; exact Nat.zero_le _
  · rw [h3]; exact Nat.zero_le _
theorem rTake_fn7 (b : List UInt8) (hb : b.length < 70368744177664) : Go.Gar.Fn Tryz.prog 15 [.by b] (.tup [(takeM b).1.d, .i .i64 (takeM b).2]) := by
  have hO := rOpen_fn b hb
  have hol := openC_len b
  refine Fn_of_W eok Tryz.func15 rfl rfl (Nat.le_of_ble_eq_true rfl) ?_
  by_cases h : (openC b).2 = 0
  · have e : takeM b = readS (openC b).1 := if_pos h
    have hR := rRead_fn (openC b).1 (by omega)
    have f := ne_false h
    unfold Msg.d Msg.cells at *
    have nS := f
    repeat' (first|((with_reducible refine sg ?_);first|with_reducible rfl|((with_reducible refine fitG ?_);first|kernel_rfl|rfl|(simp [fitT,fitF,nS];done))|with_reducible refine andT ?_ ?_|with_reducible exact Nat.beq_refl _|with_reducible exact fitsI_u8 _|((with_reducible refine decide_eq_true ?_);first|omega|(simp only [SZl,nS];omega))|decide|(simp [SZl,slc,allOneD,D.one,allOne,AV.one,nS];done)|(simp [SZl,nS];omega))|((with_reducible refine gWl ?_);first|(refine Wl_isMv rfl ?_;refine Xmv eok rfl rfl rfl rfl ?_)|refine Xq eok rfl rfl rfl rfl ?_ ?_|refine Xn [0,2,3,4,5,12] rfl ?_|refine XF (hO) rfl rfl rfl rfl ?_|refine XF (hR) rfl rfl rfl rfl ?_|refine Xa eok rfl rfl rfl rfl rfl ?_ ?_|refine Xw eok rfl rfl rfl rfl ?_ ?_)|refine W_seq ?_|refine W_region ?_|refine W_skip ?_|refine W_ret ?_|refine W_block ?_|refine W_exit ?_|refine W_cond_t rfl ?_|refine W_cond_f rfl ?_|(refine W_cond rfl (fun hc => ?_) (fun hc => ?_) <;> (try simp only [HCl] at hc) <;> (try (exfalso;omega))))
    refine ⟨_, _, rfl, rfl, ?_⟩; simp [Frz_tup, Frz_ag, Frzs_cons, Frzs_nil, Frz_d, Frz_e0, Frz_sl, sln, isSl, slOk, e]
  · have e : takeM b = (zeroM, (openC b).2) := if_neg h
    have f := ne_true h
    unfold Msg.d Msg.cells
    have nS := f
    repeat' (first|((with_reducible refine sg ?_);first|with_reducible rfl|((with_reducible refine fitG ?_);first|kernel_rfl|rfl|(simp [fitT,fitF,nS];done))|with_reducible refine andT ?_ ?_|with_reducible exact Nat.beq_refl _|with_reducible exact fitsI_u8 _|((with_reducible refine decide_eq_true ?_);first|omega|(simp only [SZl,nS];omega))|decide|(simp [SZl,slc,allOneD,D.one,allOne,AV.one,nS];done)|(simp [SZl,nS];omega))|((with_reducible refine gWl ?_);first|(refine Wl_isMv rfl ?_;refine Xmv eok rfl rfl rfl rfl ?_)|refine Xq eok rfl rfl rfl rfl ?_ ?_|refine Xn [0,2,3,4,5,12] rfl ?_|refine XF (hO) rfl rfl rfl rfl ?_|refine Xa eok rfl rfl rfl rfl rfl ?_ ?_|refine Xw eok rfl rfl rfl rfl ?_ ?_)|refine W_seq ?_|refine W_region ?_|refine W_skip ?_|refine W_ret ?_|refine W_block ?_|refine W_exit ?_|refine W_cond_t rfl ?_|refine W_cond_f rfl ?_|(refine W_cond rfl (fun hc => ?_) (fun hc => ?_) <;> (try simp only [HCl] at hc) <;> (try (exfalso;omega))))
    refine ⟨_, _, rfl, rfl, ?_⟩; simp [Frz_tup, Frz_ag, Frzs_cons, Frzs_nil, Frz_d, Frz_e0, Frz_sl, sln, isSl, slOk, e, zeroM, zeroI]
end Wi
end Go.Proofs.YtbpemnmpcljbpaaGreat
