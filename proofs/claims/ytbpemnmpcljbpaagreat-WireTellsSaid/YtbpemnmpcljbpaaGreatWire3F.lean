/- Written by a program (pre.py) from the source of the same name. -/
/- Datagrams: the law WireTells. -/
import Derived.Test.YtbpemnmpcljbpaaGreatWire3E
import Derived.Test.YtbpemnmpcljbpaaGreatFwE
set_option linter.unusedSimpArgs false
set_option linter.unusedVariables false
set_option linter.unnecessarySimpa false
namespace Go.Proofs.YtbpemnmpcljbpaaGreat
namespace Wi
open Go.Gar
set_option maxRecDepth 4000

theorem readS_list (b : List UInt8) : (readS b).1.list.length ≤ 255 := by
  rw [← readR_eq]
  unfold readR
  split
  · split
    · exact Nat.zero_le _
    · split
      · exact moreS_list _ _ (Nat.zero_le _)
      · exact Nat.zero_le _
  · exact Nat.zero_le _
theorem takeM_list (b : List UInt8) : (takeM b).1.list.length ≤ 255 := by
  unfold takeM
  split
  · exact readS_list _
  · exact Nat.zero_le _
set_option maxHeartbeats 4000000 in
theorem tells_any (m : Msg) (b : List UInt8) : Go.Gar.Fn Tryz.prog 3 [m.d, .by b] (.b true) := by
  have hw := wakes7_fn
  have g1 := great_fn m
  cases h : greatM m with
  | true =>
    rw [h] at g1
    unfold Msg.d Msg.cells at *
    refine Fn_of_W eok Tryz.func3 rfl rfl (Nat.le_of_ble_eq_true rfl) ?_
    have nS := True.intro
    repeat' (first|((with_reducible refine sg ?_);first|with_reducible rfl|((with_reducible refine fitG ?_);first|kernel_rfl|rfl|(simp [fitT,fitF,nS];done))|with_reducible refine andT ?_ ?_|with_reducible exact Nat.beq_refl _|with_reducible exact fitsI_u8 _|((with_reducible refine decide_eq_true ?_);first|omega|(simp only [SZl,nS];omega))|decide|(simp [SZl,slc,allOneD,D.one,allOne,AV.one,nS];done)|(simp [SZl,nS];omega))|((with_reducible refine gWl ?_);first|(refine Wl_isMv rfl ?_;refine Xmv eok rfl rfl rfl rfl ?_)|refine Xq eok rfl rfl rfl rfl ?_ ?_|refine Xn [0,1,2,4,5,6,7,8,9,10,11,12,19,60] rfl ?_|refine XF (hw) rfl rfl rfl rfl ?_|refine XF (g1) rfl rfl rfl rfl ?_|refine Xa eok rfl rfl rfl rfl rfl ?_ ?_|refine Xw eok rfl rfl rfl rfl ?_ ?_|refine Xs rfl rfl rfl ?_|(refine Xsplit rfl rfl (fun hc => ?_) (fun hc => ?_) <;> (fail_if_success (with_reducible first|exact tF hc|exact fT hc)) <;> (try simp only [HCl] at hc) <;> (try (exfalso;omega))))|refine W_seq ?_|refine W_region ?_|refine W_skip ?_|refine W_ret ?_|refine W_block ?_|refine W_exit ?_|refine W_cond_t rfl ?_|refine W_cond_f rfl ?_|(refine W_cond rfl (fun hc => ?_) (fun hc => ?_) <;> (try simp only [HCl] at hc) <;> (try (exfalso;omega))))
    refine ⟨_, _, rfl, rfl, ?_⟩; simp [Frz_tup, Frz_ag, Frzs_cons, Frzs_nil, Frz_d, Frz_e0, Frz_sl, sln, isSl, slOk]
  | false =>
  rw [h] at g1
  by_cases hl : b.length > 300
  · unfold Msg.d Msg.cells at *
    refine Fn_of_W eok Tryz.func3 rfl rfl (Nat.le_of_ble_eq_true rfl) ?_
    have nS := True.intro
    repeat' (first|((with_reducible refine sg ?_);first|with_reducible rfl|((with_reducible refine fitG ?_);first|kernel_rfl|rfl|(simp [fitT,fitF,nS];done))|with_reducible refine andT ?_ ?_|with_reducible exact Nat.beq_refl _|with_reducible exact fitsI_u8 _|((with_reducible refine decide_eq_true ?_);first|omega|(simp only [SZl,nS];omega))|decide|(simp [SZl,slc,allOneD,D.one,allOne,AV.one,nS];done)|(simp [SZl,nS];omega))|((with_reducible refine gWl ?_);first|(refine Wl_isMv rfl ?_;refine Xmv eok rfl rfl rfl rfl ?_)|refine Xq eok rfl rfl rfl rfl ?_ ?_|refine Xn [0,1,2,4,5,6,7,8,9,10,11,12,19,60] rfl ?_|refine XF (hw) rfl rfl rfl rfl ?_|refine XF (g1) rfl rfl rfl rfl ?_|refine Xa eok rfl rfl rfl rfl rfl ?_ ?_|refine Xw eok rfl rfl rfl rfl ?_ ?_|refine Xs rfl rfl rfl ?_|(refine Xsplit rfl rfl (fun hc => ?_) (fun hc => ?_) <;> (fail_if_success (with_reducible first|exact tF hc|exact fT hc)) <;> (try simp only [HCl] at hc) <;> (try (exfalso;omega))))|refine W_seq ?_|refine W_region ?_|refine W_skip ?_|refine W_ret ?_|refine W_block ?_|refine W_exit ?_|refine W_cond_t rfl ?_|refine W_cond_f rfl ?_|(refine W_cond rfl (fun hc => ?_) (fun hc => ?_) <;> (try simp only [HCl] at hc) <;> (try (exfalso;omega))))
    refine ⟨_, _, rfl, rfl, ?_⟩; simp [Frz_tup, Frz_ag, Frzs_cons, Frzs_nil, Frz_d, Frz_e0, Frz_sl, sln, isSl, slOk]
  have hm : m.list.length < 9223372036854775807 := by
    simp only [greatM, Bool.or_eq_false_iff, decide_eq_false_iff_not] at h; omega
  have p1 := Payload_fn m hm
  have p2 := rPayload_fn m hm
  have r1 := Read_fn b
  have r2 := rRead_fn b (by omega)
  have q1 := Put_fn m hm
  have q2 := rPut_fn7 m hm
  have t1 := Take_fn b (by omega)
  have t2 := rTake_fn7 b (by omega)
  have s1 := same7_fn (payS m).1 (payS m).1
  have s2 := same7_fn (putM m).1 (putM m).1
  have s3 := rSame_fn (readS b).1 (readS b).1 (by have := readS_list b; omega)
  have s4 := rSame_fn (takeM b).1 (takeM b).1 (by have := takeM_list b; omega)
  rw [beq_self_eq_true] at s1 s2
  rw [decide_eq_true rfl] at s3 s4
  clear h
  generalize (payS m).1 = P at *
  generalize (payS m).2 = e at *
  generalize (putM m).1 = Q at *
  generalize (putM m).2 = f at *
  generalize (readS b).1 = X at *
  generalize (readS b).2 = g at *
  generalize (takeM b).1 = Y at *
  generalize (takeM b).2 = h at *
  have f1 : (e != e) = false := by simp
  have f2 : (g != g) = false := by simp
  have f3 : (f == f) = true := by simp
  have f4 : (h == h) = true := by simp
  unfold Msg.d Msg.cells at *
  refine Fn_of_W eok Tryz.func3 rfl rfl (Nat.le_of_ble_eq_true rfl) ?_
  have nS := And.intro f1 (And.intro f2 (And.intro f3 f4))
  repeat' (first|((with_reducible refine sg ?_);first|with_reducible rfl|((with_reducible refine fitG ?_);first|kernel_rfl|rfl|(simp [fitT,fitF,nS];done))|with_reducible refine andT ?_ ?_|with_reducible exact Nat.beq_refl _|with_reducible exact fitsI_u8 _|((with_reducible refine decide_eq_true ?_);first|omega|(simp only [SZl,nS];omega))|decide|(simp [SZl,slc,allOneD,D.one,allOne,AV.one,nS];done)|(simp [SZl,nS];omega))|((with_reducible refine gWl ?_);first|(refine Wl_isMv rfl ?_;refine Xmv eok rfl rfl rfl rfl ?_)|refine Xq eok rfl rfl rfl rfl ?_ ?_|refine Xn [0,1,2,4,5,6,7,8,9,10,11,12,19,60] rfl ?_|refine XF (hw) rfl rfl rfl rfl ?_|refine XF (g1) rfl rfl rfl rfl ?_|refine XF (p1) rfl rfl rfl rfl ?_|refine XF (p2) rfl rfl rfl rfl ?_|refine XF (r1) rfl rfl rfl rfl ?_|refine XF (r2) rfl rfl rfl rfl ?_|refine XF (q1) rfl rfl rfl rfl ?_|refine XF (q2) rfl rfl rfl rfl ?_|refine XF (t1) rfl rfl rfl rfl ?_|refine XF (t2) rfl rfl rfl rfl ?_|refine XF (s1) rfl rfl rfl rfl ?_|refine XF (s2) rfl rfl rfl rfl ?_|refine XF (s3) rfl rfl rfl rfl ?_|refine XF (s4) rfl rfl rfl rfl ?_|refine Xa eok rfl rfl rfl rfl rfl ?_ ?_|refine Xw eok rfl rfl rfl rfl ?_ ?_|refine Xs rfl rfl rfl ?_|(refine Xsplit rfl rfl (fun hc => ?_) (fun hc => ?_) <;> (fail_if_success (with_reducible first|exact tF hc|exact fT hc)) <;> (try simp only [HCl] at hc) <;> (try (exfalso;omega))))|refine W_seq ?_|refine W_region ?_|refine W_skip ?_|refine W_ret ?_|refine W_block ?_|refine W_exit ?_|refine W_cond_t rfl ?_|refine W_cond_f rfl ?_|(refine W_cond rfl (fun hc => ?_) (fun hc => ?_) <;> (try simp only [HCl] at hc) <;> (try (exfalso;omega))))
  refine ⟨_, _, rfl, rfl, ?_⟩; simp [Frz_tup, Frz_ag, Frzs_cons, Frzs_nil, Frz_d, Frz_e0, Frz_sl, sln, isSl, slOk]
end Wi
end Go.Proofs.YtbpemnmpcljbpaaGreat
