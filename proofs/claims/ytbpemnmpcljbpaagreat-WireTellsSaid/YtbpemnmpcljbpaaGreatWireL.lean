/- Written by a program (pre.py) from the source of the same name. -/
/- Messages: which may be: the document's way. -/
import Derived.Test.YtbpemnmpcljbpaaGreatWireK
import Derived.Test.YtbpemnmpcljbpaaGreatFwE
set_option linter.unusedSimpArgs false
set_option linter.unusedVariables false
set_option linter.unnecessarySimpa false
namespace Go.Proofs.YtbpemnmpcljbpaaGreat
namespace Wi
open Go.Gar
set_option maxRecDepth 4000

def Msg.bare (m : Msg) : Msg :=
  if m.kind = 4 then { m with key := 0, slow := false } else
  if m.kind = 5 then { m with item := zeroI } else
  if m.kind = 6 then { m with item := zeroI } else
  if m.kind = 7 then { m with pred := 0, list := [] } else
  if m.kind = 10 then { m with place := 0, done := false } else
  if m.kind = 11 then { m with code := 0 } else
  if m.kind = 12 then { m with code := 0, item := zeroI } else m
def Msg.has (m : Msg) : Bool :=
  if m.kind = 4 then plB m.key else
  if m.kind = 5 then itOK m.item else
  if m.kind = 6 then itOK m.item && decide (m.item = ⟨m.item.key, 0, 0, false⟩) else
  if m.kind = 7 then (decide (m.pred = -1) || plB m.pred) && okList m.list m.src else
  if m.kind = 10 then plB m.place else
  if m.kind = 11 then decide (m.code = 0) || decide (m.code = 200) else
  if m.kind = 12 then (decide (m.code = 0) && itOK m.item) || (decide (m.code = 201) && decide (m.item = zeroI)) else true
set_option maxHeartbeats 4000000 in
theorem bare_fn (m : Msg) : Go.Gar.Fn Tryz.prog 59 [m.d] m.bare.d := by
  obtain ⟨k, c, s, d, ky, sl, dn, pl, pr, l, ⟨ik, iv, ir, ig⟩, co⟩ := m
  refine Fn_of_W eok Tryz.func59 rfl rfl (Nat.le_of_ble_eq_true rfl) ?_
  have nS := True.intro
  repeat' (first|((with_reducible refine sg ?_);first|with_reducible rfl|((with_reducible refine fitG ?_);first|kernel_rfl|rfl|(simp [fitT,fitF,nS];done))|with_reducible refine andT ?_ ?_|with_reducible exact Nat.beq_refl _|with_reducible exact fitsI_u8 _|((with_reducible refine decide_eq_true ?_);first|omega|(simp only [SZl,nS];omega))|decide|(simp [SZl,slc,allOneD,D.one,allOne,AV.one,nS];done)|(simp [SZl,nS];omega))|((with_reducible refine gWl ?_);first|(refine Wl_isMv rfl ?_;refine Xmv eok rfl rfl rfl rfl ?_)|refine Xq eok rfl rfl rfl rfl ?_ ?_|refine Xn [0,1,2,4,5,9,14,18,22,25] rfl ?_|refine Xa eok rfl rfl rfl rfl rfl ?_ ?_|refine Xw eok rfl rfl rfl rfl ?_ ?_)|refine W_seq ?_|refine W_region ?_|refine W_skip ?_|refine W_ret ?_|refine W_block ?_|refine W_exit ?_|refine W_cond_t rfl ?_|refine W_cond_f rfl ?_|(refine W_cond rfl (fun hc => ?_) (fun hc => ?_) <;> (try simp only [HCl] at hc) <;> (try (exfalso;omega))))
  all_goals (refine ⟨_, _, rfl, rfl, ?_⟩; simp [*, Msg.bare, Msg.d, Msg.cells, zeroI, Frz_ag, Frzs_cons, Frzs_nil, Frz_d, Frz_e0, isSl, sln, slOk])
set_option maxHeartbeats 4000000 in
theorem has_fn (m : Msg) (hl : m.list.length < 9223372036854775807) : Go.Gar.Fn Tryz.prog 60 [m.d] (.b m.has) := by
  obtain ⟨k, c, s, d, ky, sl, dn, pl, pr, l, ⟨ik, iv, ir, ig⟩, co⟩ := m
  have hp := rPlace_fn
  have hP := rPair_fn ⟨ik, iv, ir, ig⟩
  have hL := rlist_fn l s hl
  have i1 := item_eqX ⟨ik, iv, ir, ig⟩ ⟨ik, 0, 0, false⟩
  have i2 := item_eqX ⟨ik, iv, ir, ig⟩ ⟨[], 0, 0, false⟩
  refine Fn_of_W eok Tryz.func60 rfl rfl (Nat.le_of_ble_eq_true rfl) ?_
  have nS := And.intro i1 i2
  repeat' (first|((with_reducible refine sg ?_);first|with_reducible rfl|((with_reducible refine fitG ?_);first|kernel_rfl|rfl|(simp [fitT,fitF,nS];done))|with_reducible refine andT ?_ ?_|with_reducible exact Nat.beq_refl _|with_reducible exact fitsI_u8 _|((with_reducible refine decide_eq_true ?_);first|omega|(simp only [SZl,nS];omega))|decide|(simp [SZl,slc,allOneD,D.one,allOne,AV.one,nS];done)|(simp [SZl,nS];omega))|((with_reducible refine gWl ?_);first|(refine Wl_isMv rfl ?_;refine Xmv eok rfl rfl rfl rfl ?_)|refine Xq eok rfl rfl rfl rfl ?_ ?_|refine Xn [0,1,2,4,5,10,15,29,46,51,61] rfl ?_|refine XF (hp _) rfl rfl rfl rfl ?_|refine XF (hP) rfl rfl rfl rfl ?_|refine XF (hL) rfl rfl rfl rfl ?_|refine Xa eok rfl rfl rfl rfl rfl ?_ ?_|refine Xs rfl rfl rfl ?_|(refine Xsplit rfl rfl (fun hc => ?_) (fun hc => ?_) <;> (fail_if_success (with_reducible first|exact tF hc|exact fT hc)) <;> (try simp only [HCl] at hc) <;> (try (exfalso;omega))))|refine W_seq ?_|refine W_region ?_|refine W_skip ?_|refine W_ret ?_|refine W_block ?_|refine W_exit ?_|refine W_cond_t rfl ?_|refine W_cond_f rfl ?_|(refine W_cond rfl (fun hc => ?_) (fun hc => ?_) <;> (try simp only [HCl] at hc) <;> (try (exfalso;omega))))
  all_goals (clear hp hP hL i1 i2; refine ⟨_, _, rfl, rfl, ?_⟩; simp_all [Frz, Msg.has, zeroI, beq_dec])
theorem plB_t {n : Int} (h : plB n = true) : 0 ≤ n ∧ n < 65536 := by simpa [plB] using h
def Msg.empty (m : Msg) : Msg := ⟨m.kind, m.call, m.src, m.dst, 0, false, false, 0, 0, [], zeroI, 0⟩
def Msg.headOK (m : Msg) : Bool := decide (1 ≤ m.kind) && decide (m.kind < 13) && plB m.src && plB m.dst && decide (m.src ≠ m.dst) && decide (m.asker * 1048576 + 1 ≤ m.call) && decide (m.call < m.asker * 1048576 + 1 + 1048576)
def Msg.right (m : Msg) : Bool := m.headOK && (decide (m.bare = m.empty) && m.has)
theorem bare_len (m : Msg) (hl : m.list.length < 9223372036854775807) : m.bare.list.length < 9223372036854775807 := by
  unfold Msg.bare
  repeat' split
  all_goals first | exact hl | (show ([] : List Int).length < 9223372036854775807; decide)
set_option maxHeartbeats 4000000 in
theorem rRight_fn (m : Msg) (hl : m.list.length < 9223372036854775807) : Go.Gar.Fn Tryz.prog 23 [m.d] (.b m.right) := by
  have hb := bare_fn m
  have hh := has_fn m hl
  have hA := rAsker_fn m
  have hS := rSame_fn m.bare m.empty (bare_len m hl)
  have hp1 := rPlace_fn m.src
  have hp2 := rPlace_fn m.dst
  have hR : m.right = (m.headOK && (decide (m.bare = m.empty) && m.has)) := rfl
  have hH : m.headOK = (decide (1 ≤ m.kind) && decide (m.kind < 13) && plB m.src && plB m.dst && decide (m.src ≠ m.dst) && decide (m.asker * 1048576 + 1 ≤ m.call) && decide (m.call < m.asker * 1048576 + 1 + 1048576)) := rfl
  have hAb : plB m.src = true → plB m.dst = true → 0 ≤ m.asker ∧ m.asker < 65536 := by
    intro h1 h2
    unfold Msg.asker
    split
    · exact plB_t h1
    · exact plB_t h2
  unfold Msg.d Msg.cells at hb hh hA hS ⊢
  simp only [Msg.empty, zeroI] at hS
  generalize m.bare = B at *
  generalize m.has = hs at *
  generalize m.asker = A at *
  generalize m.right = R at *
  generalize m.headOK = H at *
  obtain ⟨k, c, s, d, ky, sl, dn, pl, pr, l, ⟨ik, iv, ir, ig⟩, co⟩ := m
  refine Fn_of_W eok Tryz.func23 rfl rfl (Nat.le_of_ble_eq_true rfl) ?_
  simp only at *
  cases h1 : plB s with
  | false =>
    rw [h1] at hp1 hH
    have nS := True.intro
    repeat' (first|((with_reducible refine sg ?_);first|with_reducible rfl|((with_reducible refine fitG ?_);first|kernel_rfl|rfl|(simp [fitT,fitF,nS];done))|with_reducible refine andT ?_ ?_|with_reducible exact Nat.beq_refl _|with_reducible exact fitsI_u8 _|((with_reducible refine decide_eq_true ?_);first|omega|(simp only [SZl,nS];omega))|decide|(simp [SZl,slc,allOneD,D.one,allOne,AV.one,nS];done)|(simp [SZl,nS];omega))|((with_reducible refine gWl ?_);first|(refine Wl_isMv rfl ?_;refine Xmv eok rfl rfl rfl rfl ?_)|refine Xq eok rfl rfl rfl rfl ?_ ?_|refine Xn [0,1,2,3,4,31,46] rfl ?_|refine XF (hp1) rfl rfl rfl rfl ?_|refine Xa eok rfl rfl rfl rfl rfl ?_ ?_|refine Xw eok rfl rfl rfl rfl ?_ ?_|refine Xs rfl rfl rfl ?_|(refine Xsplit rfl rfl (fun hc => ?_) (fun hc => ?_) <;> (fail_if_success (with_reducible first|exact tF hc|exact fT hc)) <;> (try simp only [HCl] at hc) <;> (try (exfalso;omega))))|((with_reducible refine gWd ?_);first|(refine Wd_isMv rfl ?_;refine Ymv eok rfl rfl (fun _ => rfl) rfl rfl ?_)|refine Yp eok rfl rfl (fun _ => rfl) rfl rfl ?_ ?_|refine Yq rfl rfl rfl rfl rfl ?_ ?_|refine Ys rfl rfl rfl rfl ?_|refine YF (hp1) rfl rfl rfl rfl rfl ?_|refine Ya eok rfl rfl rfl rfl rfl rfl ?_ ?_|refine Yw eok rfl rfl rfl rfl rfl ?_ ?_|refine Yn [0,1,2,3,4,31,46] [] mixed eok (by kernel_rfl) True.intro rfl ?_|(refine Ysplit rfl rfl (fun hc => ?_) (fun hc => ?_) <;> (fail_if_success (with_reducible first|exact tF hc|exact fT hc)) <;> (try simp only [HCl] at hc) <;> (try (exfalso;omega))))|refine W_seq ?_|refine W_region ?_|refine W_any T.get ?_|refine W_skip ?_|refine W_ret ?_|refine W_block ?_|refine W_exit ?_|refine W_cond_t rfl ?_|refine W_cond_f rfl ?_|(refine W_cond rfl (fun hc => ?_) (fun hc => ?_) <;> (try simp only [HCl] at hc) <;> (try (exfalso;omega))))
    all_goals (refine ⟨_, _, rfl, rfl, ?_⟩; simp_all [Frz])
  | true =>
  rw [h1] at hp1 hH
  cases h2 : plB d with
  | false =>
    rw [h2] at hp2 hH
    have nS := True.intro
    repeat' (first|((with_reducible refine sg ?_);first|with_reducible rfl|((with_reducible refine fitG ?_);first|kernel_rfl|rfl|(simp [fitT,fitF,nS];done))|with_reducible refine andT ?_ ?_|with_reducible exact Nat.beq_refl _|with_reducible exact fitsI_u8 _|((with_reducible refine decide_eq_true ?_);first|omega|(simp only [SZl,nS];omega))|decide|(simp [SZl,slc,allOneD,D.one,allOne,AV.one,nS];done)|(simp [SZl,nS];omega))|((with_reducible refine gWl ?_);first|(refine Wl_isMv rfl ?_;refine Xmv eok rfl rfl rfl rfl ?_)|refine Xq eok rfl rfl rfl rfl ?_ ?_|refine Xn [0,1,2,3,4,31,46] rfl ?_|refine XF (hp1) rfl rfl rfl rfl ?_|refine XF (hp2) rfl rfl rfl rfl ?_|refine Xa eok rfl rfl rfl rfl rfl ?_ ?_|refine Xw eok rfl rfl rfl rfl ?_ ?_|refine Xs rfl rfl rfl ?_|(refine Xsplit rfl rfl (fun hc => ?_) (fun hc => ?_) <;> (fail_if_success (with_reducible first|exact tF hc|exact fT hc)) <;> (try simp only [HCl] at hc) <;> (try (exfalso;omega))))|((with_reducible refine gWd ?_);first|(refine Wd_isMv rfl ?_;refine Ymv eok rfl rfl (fun _ => rfl) rfl rfl ?_)|refine Yp eok rfl rfl (fun _ => rfl) rfl rfl ?_ ?_|refine Yq rfl rfl rfl rfl rfl ?_ ?_|refine Ys rfl rfl rfl rfl ?_|refine YF (hp1) rfl rfl rfl rfl rfl ?_|refine YF (hp2) rfl rfl rfl rfl rfl ?_|refine Ya eok rfl rfl rfl rfl rfl rfl ?_ ?_|refine Yw eok rfl rfl rfl rfl rfl ?_ ?_|refine Yn [0,1,2,3,4,31,46] [] mixed eok (by kernel_rfl) True.intro rfl ?_|(refine Ysplit rfl rfl (fun hc => ?_) (fun hc => ?_) <;> (fail_if_success (with_reducible first|exact tF hc|exact fT hc)) <;> (try simp only [HCl] at hc) <;> (try (exfalso;omega))))|refine W_seq ?_|refine W_region ?_|refine W_any T.get ?_|refine W_skip ?_|refine W_ret ?_|refine W_block ?_|refine W_exit ?_|refine W_cond_t rfl ?_|refine W_cond_f rfl ?_|(refine W_cond rfl (fun hc => ?_) (fun hc => ?_) <;> (try simp only [HCl] at hc) <;> (try (exfalso;omega))))
    all_goals (refine ⟨_, _, rfl, rfl, ?_⟩; simp_all [Frz])
  | true =>
  rw [h2] at hp2 hH
  have hA2 := hAb h1 h2
  have nS := True.intro
  repeat' (first|((with_reducible refine sg ?_);first|with_reducible rfl|((with_reducible refine fitG ?_);first|kernel_rfl|rfl|(simp [fitT,fitF,nS];done))|with_reducible refine andT ?_ ?_|with_reducible exact Nat.beq_refl _|with_reducible exact fitsI_u8 _|((with_reducible refine decide_eq_true ?_);first|omega|(simp only [SZl,nS];omega))|decide|(simp [SZl,slc,allOneD,D.one,allOne,AV.one,nS];done)|(simp [SZl,nS];omega))|((with_reducible refine gWl ?_);first|(refine Wl_isMv rfl ?_;refine Xmv eok rfl rfl rfl rfl ?_)|refine Xq eok rfl rfl rfl rfl ?_ ?_|refine Xn [0,1,2,3,4,31,46] rfl ?_|refine XF (hp1) rfl rfl rfl rfl ?_|refine XF (hp2) rfl rfl rfl rfl ?_|refine XF (hA) rfl rfl rfl rfl ?_|refine XF (hb) rfl rfl rfl rfl ?_|refine XF (hh) rfl rfl rfl rfl ?_|refine XFz (hS) rfl rfl rfl rfl (by first|(simp [AsD,Frzs,Frz,isSl,sln,slOk];done)|(repeat' (first|rfl|trivial|refine ⟨rfl,rfl,by simp [slOk]⟩|refine ⟨_,_,rfl,?_,?_⟩|refine ⟨_,rfl,?_⟩))) ?_|refine Xa eok rfl rfl rfl rfl rfl ?_ ?_|refine Xw eok rfl rfl rfl rfl ?_ ?_|refine Xs rfl rfl rfl ?_|(refine Xsplit rfl rfl (fun hc => ?_) (fun hc => ?_) <;> (fail_if_success (with_reducible first|exact tF hc|exact fT hc)) <;> (try simp only [HCl] at hc) <;> (try (exfalso;omega))))|((with_reducible refine gWd ?_);first|(refine Wd_isMv rfl ?_;refine Ymv eok rfl rfl (fun _ => rfl) rfl rfl ?_)|refine Yp eok rfl rfl (fun _ => rfl) rfl rfl ?_ ?_|refine Yq rfl rfl rfl rfl rfl ?_ ?_|refine Ys rfl rfl rfl rfl ?_|refine YF (hp1) rfl rfl rfl rfl rfl ?_|refine YF (hp2) rfl rfl rfl rfl rfl ?_|refine YF (hA) rfl rfl rfl rfl rfl ?_|refine YF (hb) rfl rfl rfl rfl rfl ?_|refine YF (hh) rfl rfl rfl rfl rfl ?_|refine YFz (hS) rfl rfl rfl rfl rfl (by first|(simp [AsD,Frzs,Frz,isSl,sln,slOk];done)|(repeat' (first|rfl|trivial|refine ⟨rfl,rfl,by simp [slOk]⟩|refine ⟨_,_,rfl,?_,?_⟩|refine ⟨_,rfl,?_⟩))) ?_|refine Ya eok rfl rfl rfl rfl rfl rfl ?_ ?_|refine Yw eok rfl rfl rfl rfl rfl ?_ ?_|refine Yn [0,1,2,3,4,31,46] [] mixed eok (by kernel_rfl) True.intro rfl ?_|(refine Ysplit rfl rfl (fun hc => ?_) (fun hc => ?_) <;> (fail_if_success (with_reducible first|exact tF hc|exact fT hc)) <;> (try simp only [HCl] at hc) <;> (try (exfalso;omega))))|refine W_seq ?_|refine W_region ?_|refine W_any T.get ?_|refine W_skip ?_|refine W_ret ?_|refine W_block ?_|refine W_exit ?_|refine W_cond_t rfl ?_|refine W_cond_f rfl ?_|(refine W_cond rfl (fun hc => ?_) (fun hc => ?_) <;> (try simp only [HCl] at hc) <;> (try (exfalso;omega))))
  all_goals (clear hb hh hA hS hp1 hp2 hAb; refine ⟨_, _, rfl, rfl, ?_⟩; simp_all [Frz, Msg.empty, zeroI] <;> omega)
end Wi
end Go.Proofs.YtbpemnmpcljbpaaGreat
