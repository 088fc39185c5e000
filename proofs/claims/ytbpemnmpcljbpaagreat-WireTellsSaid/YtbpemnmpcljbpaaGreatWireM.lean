/- Written by a program (pre.py) from the source of the same name. -/
/- Messages: which may be: the program's way. -/
import Derived.Test.YtbpemnmpcljbpaaGreatWireL
import Derived.Test.YtbpemnmpcljbpaaGreatFwE
set_option linter.unusedSimpArgs false
set_option linter.unusedVariables false
set_option linter.unnecessarySimpa false
namespace Go.Proofs.YtbpemnmpcljbpaaGreat
namespace Wi
open Go.Gar
set_option maxRecDepth 4000

set_option maxHeartbeats 4000000 in
theorem Same_fn (a b : Msg) (ha : a.list.length < 9223372036854775807) : Go.Gar.Fn Tryz.prog 43 [a.d, b.d] (.b (decide (a = b))) := by
  have hE := eqInts_fn a.list b.list ha
  obtain ⟨k, c, s, d, ky, sl, dn, pl, pr, l, ⟨ik, iv, ir, ig⟩, co⟩ := a
  obtain ⟨k', c', s', d', ky', sl', dn', pl', pr', l', ⟨ik', iv', ir', ig'⟩, co'⟩ := b
  have hI := item_eqX ⟨ik, iv, ir, ig⟩ ⟨ik', iv', ir', ig'⟩
  refine Fn_of_W eok Tryz.func43 rfl rfl (Nat.le_of_ble_eq_true rfl) ?_
  have nS := hI
  repeat' (first|((with_reducible refine sg ?_);first|with_reducible rfl|((with_reducible refine fitG ?_);first|kernel_rfl|rfl|(simp [fitT,fitF,nS];done))|with_reducible refine andT ?_ ?_|with_reducible exact Nat.beq_refl _|with_reducible exact fitsI_u8 _|((with_reducible refine decide_eq_true ?_);first|omega|(simp only [SZl,nS];omega))|decide|(simp [SZl,slc,allOneD,D.one,allOne,AV.one,nS];done)|(simp [SZl,nS];omega))|((with_reducible refine gWl ?_);first|(refine Wl_isMv rfl ?_;refine Xmv eok rfl rfl rfl rfl ?_)|refine Xq eok rfl rfl rfl rfl ?_ ?_|refine Xn [0,1,2,3,4] rfl ?_|refine XF (hE) rfl rfl rfl rfl ?_|refine Xa eok rfl rfl rfl rfl rfl ?_ ?_|refine Xs rfl rfl rfl ?_|(refine Xsplit rfl rfl (fun hc => ?_) (fun hc => ?_) <;> (fail_if_success (with_reducible first|exact tF hc|exact fT hc)) <;> (try simp only [HCl] at hc) <;> (try (exfalso;omega))))|refine W_seq ?_|refine W_region ?_|refine W_skip ?_|refine W_ret ?_|refine W_block ?_|refine W_exit ?_|refine W_cond_t rfl ?_|refine W_cond_f rfl ?_|(refine W_cond rfl (fun hc => ?_) (fun hc => ?_) <;> (try simp only [HCl] at hc) <;> (try (exfalso;omega))))
  all_goals (clear ha hE; refine ⟨_, _, rfl, rfl, ?_⟩; simp_all [Frz, beq_dec])
def Msg.beside (m : Msg) : Msg :=
  if m.kind = 4 then { m with kind := 0, call := 0, src := 0, dst := 0, key := 0, slow := false } else
  if m.kind = 5 then { m with kind := 0, call := 0, src := 0, dst := 0, item := zeroI } else
  if m.kind = 6 then { m with kind := 0, call := 0, src := 0, dst := 0, item := ⟨[], m.item.value, m.item.version, m.item.gone⟩ } else
  if m.kind = 7 then { m with kind := 0, call := 0, src := 0, dst := 0, pred := 0, list := [] } else
  if m.kind = 10 then { m with kind := 0, call := 0, src := 0, dst := 0, place := 0, done := false } else
  if m.kind = 11 then { m with kind := 0, call := 0, src := 0, dst := 0, code := 0 } else
  if m.kind = 12 then { m with kind := 0, call := 0, src := 0, dst := 0, code := 0, item := zeroI } else
  { m with kind := 0, call := 0, src := 0, dst := 0 }
def Msg.holds (m : Msg) : Bool :=
  if m.kind = 5 then itOK m.item else
  if m.kind = 6 then isKy m.item.key else
  if m.kind = 7 then decide ((m.list.length : Int) ≤ 3) && apartB m.src m.list else
  if m.kind = 11 then decide (m.code = 0) || decide (m.code = 200) else
  if m.kind = 12 then (decide (m.code = 0) && itOK m.item) || (decide (m.code = 201) && decide (m.item = zeroI)) else true
set_option maxHeartbeats 4000000 in
theorem beside_fn (m : Msg) : Go.Gar.Fn Tryz.prog 44 [m.d] m.beside.d := by
  obtain ⟨k, c, s, d, ky, sl, dn, pl, pr, l, ⟨ik, iv, ir, ig⟩, co⟩ := m
  refine Fn_of_W eok Tryz.func44 rfl rfl (Nat.le_of_ble_eq_true rfl) ?_
  have nS := True.intro
  repeat' (first|((with_reducible refine sg ?_);first|with_reducible rfl|((with_reducible refine fitG ?_);first|kernel_rfl|rfl|(simp [fitT,fitF,nS];done))|with_reducible refine andT ?_ ?_|with_reducible exact Nat.beq_refl _|with_reducible exact fitsI_u8 _|((with_reducible refine decide_eq_true ?_);first|omega|(simp only [SZl,nS];omega))|decide|(simp [SZl,slc,allOneD,D.one,allOne,AV.one,nS];done)|(simp [SZl,nS];omega))|((with_reducible refine gWl ?_);first|(refine Wl_isMv rfl ?_;refine Xmv eok rfl rfl rfl rfl ?_)|refine Xq eok rfl rfl rfl rfl ?_ ?_|refine Xn [0,1,2,4,5,9,13,17,21,25,28] rfl ?_|refine Xa eok rfl rfl rfl rfl rfl ?_ ?_|refine Xw eok rfl rfl rfl rfl ?_ ?_)|refine W_seq ?_|refine W_region ?_|refine W_skip ?_|refine W_ret ?_|refine W_block ?_|refine W_exit ?_|refine W_cond_t rfl ?_|refine W_cond_f rfl ?_|(refine W_cond rfl (fun hc => ?_) (fun hc => ?_) <;> (try simp only [HCl] at hc) <;> (try (exfalso;omega))))
  all_goals (refine ⟨_, _, rfl, rfl, ?_⟩; simp [*, Msg.beside, Msg.d, Msg.cells, zeroI, Frz_ag, Frzs_cons, Frzs_nil, Frz_d, Frz_e0, isSl, sln, slOk])
set_option maxHeartbeats 4000000 in
theorem holds_fn (m : Msg) (hl : m.list.length < 9223372036854775807) : Go.Gar.Fn Tryz.prog 38 [m.d] (.b m.holds) := by
  obtain ⟨k, c, s, d, ky, sl, dn, pl, pr, l, ⟨ik, iv, ir, ig⟩, co⟩ := m
  have hk := isKey_fn ik
  have hP := Pair_fn ⟨ik, iv, ir, ig⟩
  have hL := apart_fn s l hl
  have i2 := item_eqX ⟨ik, iv, ir, ig⟩ ⟨[], 0, 0, false⟩
  refine Fn_of_W eok Tryz.func38 rfl rfl (Nat.le_of_ble_eq_true rfl) ?_
  have nS := i2
  repeat' (first|((with_reducible refine sg ?_);first|with_reducible rfl|((with_reducible refine fitG ?_);first|kernel_rfl|rfl|(simp [fitT,fitF,nS];done))|with_reducible refine andT ?_ ?_|with_reducible exact Nat.beq_refl _|with_reducible exact fitsI_u8 _|((with_reducible refine decide_eq_true ?_);first|omega|(simp only [SZl,nS];omega))|decide|(simp [SZl,slc,allOneD,D.one,allOne,AV.one,nS];done)|(simp [SZl,nS];omega))|((with_reducible refine gWl ?_);first|(refine Wl_isMv rfl ?_;refine Xmv eok rfl rfl rfl rfl ?_)|refine Xq eok rfl rfl rfl rfl ?_ ?_|refine Xn [0,1,2,4,5,10,16,29,39] rfl ?_|refine XF (hk) rfl rfl rfl rfl ?_|refine XF (hP) rfl rfl rfl rfl ?_|refine XF (hL) rfl rfl rfl rfl ?_|refine Xa eok rfl rfl rfl rfl rfl ?_ ?_|refine Xs rfl rfl rfl ?_|(refine Xsplit rfl rfl (fun hc => ?_) (fun hc => ?_) <;> (fail_if_success (with_reducible first|exact tF hc|exact fT hc)) <;> (try simp only [HCl] at hc) <;> (try (exfalso;omega))))|refine W_seq ?_|refine W_region ?_|refine W_skip ?_|refine W_ret ?_|refine W_block ?_|refine W_exit ?_|refine W_cond_t rfl ?_|refine W_cond_f rfl ?_|(refine W_cond rfl (fun hc => ?_) (fun hc => ?_) <;> (try simp only [HCl] at hc) <;> (try (exfalso;omega))))
  all_goals (clear hk hP hL i2; refine ⟨_, _, rfl, rfl, ?_⟩; simp_all [Frz, Msg.holds, zeroI, beq_dec] <;> (intro; exfalso; omega))
theorem isCall_fn (a c : Int) (h : 0 ≤ a ∧ a < 65536) : Go.Gar.Fn Tryz.prog 41 [.i .i64 a, .i .i64 c] (.b (decide (c > a * 1048576) && decide (c ≤ (a + 1) * 1048576))) := by
  refine Fn_of_W eok Tryz.func41 rfl rfl (Nat.le_of_ble_eq_true rfl) ?_
  have nS := True.intro
  repeat' (first|((with_reducible refine sg ?_);first|with_reducible rfl|((with_reducible refine fitG ?_);first|kernel_rfl|rfl|(simp [fitT,fitF,nS];done))|with_reducible refine andT ?_ ?_|with_reducible exact Nat.beq_refl _|with_reducible exact fitsI_u8 _|((with_reducible refine decide_eq_true ?_);first|omega|(simp only [SZl,nS];omega))|decide|(simp [SZl,slc,allOneD,D.one,allOne,AV.one,nS];done)|(simp [SZl,nS];omega))|((with_reducible refine gWl ?_);first|(refine Wl_isMv rfl ?_;refine Xmv eok rfl rfl rfl rfl ?_)|refine Xq eok rfl rfl rfl rfl ?_ ?_|refine Xn [0,1,4] rfl ?_|refine Xs rfl rfl rfl ?_|(refine Xsplit rfl rfl (fun hc => ?_) (fun hc => ?_) <;> (fail_if_success (with_reducible first|exact tF hc|exact fT hc)) <;> (try simp only [HCl] at hc) <;> (try (exfalso;omega))))|refine W_seq ?_|refine W_region ?_|refine W_skip ?_|refine W_ret ?_|refine W_block ?_|refine W_exit ?_|refine W_cond_t rfl ?_|refine W_cond_f rfl ?_|(refine W_cond rfl (fun hc => ?_) (fun hc => ?_) <;> (try simp only [HCl] at hc) <;> (try (exfalso;omega))))
  all_goals (refine ⟨_, _, rfl, rfl, ?_⟩; simp_all [Frz] <;> omega)

def mC (m : Msg) : List AV := [.d (.i .u8 m.kind), .d (.i .i64 m.call), .d (.i .i64 m.src), .d (.i .i64 m.dst), .d (.i .i64 m.key), .d (.b m.slow), .d (.b m.done), .d (.i .i64 m.place), .d (.i .i64 m.pred), .d (.is m.list), .d (.s m.item.key), .d (.i .i64 m.item.value), .d (.i .i64 m.item.version), .d (.b m.item.gone), .d (.i .i64 m.code)]
theorem places_fn (m : Msg) : FnD Tryz.prog 39 [.d m.d] [] (.fn (.func 85) [] [.ptr 0 0 15]) [.c (mC m)] := by
  refine FnD_of_W eok Tryz.func39 rfl rfl (Nat.le_of_ble_eq_true rfl) ?_
  have nS := True.intro
  repeat' (first|((with_reducible refine sg ?_);first|with_reducible rfl|((with_reducible refine fitG ?_);first|kernel_rfl|rfl|(simp [fitT,fitF,nS];done))|with_reducible refine andT ?_ ?_|with_reducible exact Nat.beq_refl _|with_reducible exact fitsI_u8 _|((with_reducible refine decide_eq_true ?_);first|omega|(simp only [SZl,nS];omega))|decide|(simp [SZl,slc,allOneD,D.one,allOne,AV.one,nS];done)|(simp [SZl,nS];omega))|((with_reducible refine gWl ?_);first|(refine Wl_isMv rfl ?_;refine Xmv eok rfl rfl rfl rfl ?_)|refine Xq eok rfl rfl rfl rfl ?_ ?_|refine Xn [0,1,2] rfl ?_|refine Xa eok rfl rfl rfl rfl rfl ?_ ?_)|refine W_seq ?_|refine W_region ?_|refine W_skip ?_|refine W_ret ?_|refine W_block ?_|refine W_exit ?_|refine W_cond_t rfl ?_|refine W_cond_f rfl ?_|(refine W_cond rfl (fun hc => ?_) (fun hc => ?_) <;> (try simp only [HCl] at hc) <;> (try (exfalso;omega))))
  exact ⟨_, (TSub.cut rfl (by repeat' (first | exact True.intro | refine And.intro (by (first | rfl | ((with_reducible_and_instances refine congrArg (fun z => some (AV.d (D.i _ z))) ?_); omega) | (refine congrArg (fun z => some (AV.d (D.i _ z))) (?_ : (_ : Int) = _); omega) | (refine congrArg some ?_; simp; done))) ?_)) (by repeat' (first | exact True.intro | refine And.intro (Or.inr rfl) ?_ | refine And.intro (Or.inl ⟨rfl, rfl⟩) ?_ | refine And.intro (Or.inr (by simp)) ?_)) (by first | rfl | (simp (decide := true) [heapOk, Blk.ok, AV.oks, AV.ok, hk]; done)) rfl), Nat.zero_le _, _, _, rfl, rfl, rfl, rfl⟩
def Msg.okPlaces (m : Msg) : Bool :=
  plB m.src && plB m.dst && (if m.kind = 4 then plB m.key else if m.kind = 10 then plB m.place else if m.kind = 7 then (decide (m.pred = -1) || plB m.pred) && m.list.all plB else true)
end Wi
end Go.Proofs.YtbpemnmpcljbpaaGreat
