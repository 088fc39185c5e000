/- Written by a program (pre.py) from the source of the same name. -/
/- Payloads: read: the contract. -/
import Derived.Test.YtbpemnmpcljbpaaGreatWireW
import Derived.Test.YtbpemnmpcljbpaaGreatFwE
set_option linter.unusedSimpArgs false
set_option linter.unusedVariables false
set_option linter.unnecessarySimpa false
namespace Go.Proofs.YtbpemnmpcljbpaaGreat
namespace Wi
open Go.Gar
set_option maxRecDepth 4000

set_option maxHeartbeats 16000000 in
theorem Read_yes (b : List UInt8) (hb : b.length ≤ 46) (m m' : Msg) (r : List UInt8) (h : pHead zeroM b = some (m, r)) (h2 : pMore m r = some (m', [])) (h3 : m'.right = true) : FnD Tryz.prog 8 [.d (.by b)] [] (.tup [.d m'.d, .d (.i .i64 0)]) [.c (mC m'), .c [.d (.i .i64 0)]] := by
  have c1 := head_ok zeroM b (by omega) m r h
  have l1 := pHead_len h
  obtain ⟨hk1, hk2, hk3⟩ := pHead_kind h
  have c2 := reads_own m r
  have hl := pMore_le h2 (by rw [hk3]; simp)
  have cR := Right_fn m' (by omega)
  rw [h3] at cR
  by_cases hs : special m.kind
  · have c3 := more_ok m r (by omega) m' [] h2 hs
    unfold special at hs
    obtain ⟨k, c, s, d, ky, sl, dn, pl, pr, l, ⟨ik, iv, ir, ig⟩, co⟩ := m
    obtain ⟨k', c', s', d', ky', sl', dn', pl', pr', l', ⟨ik', iv', ir', ig'⟩, co'⟩ := m'
    unfold hH at c1
    unfold gH at c3
    unfold Msg.d Msg.cells at cR ⊢
    simp only [mC, mapR, zeroM, zeroI, moreF] at *
    refine FnT_of_D (g := 29) (xs := [.ptr 0 0 15, .ptr 1 0 1]) eok Tryz.func8 rfl rfl (Nat.le_of_ble_eq_true rfl) ?_
    refine Ka eok rfl rfl rfl rfl rfl ?_ rfl
    refine Ka eok rfl rfl rfl rfl rfl ?_ rfl
    refine WlK_nil ?_
    refine Fq eok rfl rfl rfl rfl ?_ rfl
    refine WlF_defer rfl rfl rfl rfl rfl rfl ⟨_, Tryz.func29, rfl, rfl⟩ rfl ?_
    have nS := True.intro
    repeat' (first|((with_reducible refine sg ?_);first|with_reducible rfl|((with_reducible refine fitG ?_);first|kernel_rfl|rfl|(simp [fitT,fitF,nS];done))|with_reducible refine andT ?_ ?_|with_reducible exact Nat.beq_refl _|with_reducible exact fitsI_u8 _|((with_reducible refine decide_eq_true ?_);first|omega|(simp only [SZl,nS];omega))|decide|(simp [SZl,slc,allOneD,D.one,allOne,AV.one,nS];done)|(simp [SZl,nS];omega))|((with_reducible refine gWl ?_);first|(refine Wl_isMv rfl ?_;refine Xmv eok rfl rfl rfl rfl ?_)|refine Xq eok rfl rfl rfl rfl ?_ ?_|refine Xn [0,2,3,4,5,6,10,23,34] rfl ?_|refine Xpan rfl rfl rfl ?_|refine Xa eok rfl rfl rfl rfl rfl ?_ ?_|refine Xw eok rfl rfl rfl rfl ?_ ?_|refine Xs rfl rfl rfl ?_|(refine Xsplit rfl rfl (fun hc => ?_) (fun hc => ?_) <;> (fail_if_success (with_reducible first|exact tF hc|exact fT hc)) <;> (try simp only [HCl] at hc) <;> (try (exfalso;omega))))|((with_reducible refine gWd ?_);first|(refine Wd_isMv rfl ?_;refine Ymv eok rfl rfl (fun _ => rfl) rfl rfl ?_)|refine Yp eok rfl rfl (fun _ => rfl) rfl rfl ?_ ?_|refine Yq rfl rfl rfl rfl rfl ?_ ?_|refine Ys rfl rfl rfl rfl ?_|refine Ya eok rfl rfl rfl rfl rfl rfl ?_ ?_|refine Yw eok rfl rfl rfl rfl rfl ?_ ?_|refine Yn [0,2,3,4,5,6,10,23,34] [] mixed eok (by kernel_rfl) True.intro rfl ?_|(refine Ysplit rfl rfl (fun hc => ?_) (fun hc => ?_) <;> (fail_if_success (with_reducible first|exact tF hc|exact fT hc)) <;> (try simp only [HCl] at hc) <;> (try (exfalso;omega))))|refine W_seq ?_|refine W_regionS [5] rfl ?_|refine W_anyS [5] T.get rfl ?_|refine W_skip ?_|refine W_ret ?_|refine W_block ?_|refine W_exit ?_|refine W_cond_t rfl ?_|refine W_cond_f rfl ?_|(refine W_cond rfl (fun hc => ?_) (fun hc => ?_) <;> (try simp only [HCl] at hc) <;> (try (exfalso;omega))))
    refine W_ghost (TSub.e0c 0 9 (.is []) rfl rfl rfl rfl trivial) (by simp) ?_
    clear h h2
    rcases hs with rfl | rfl | rfl | rfl | rfl | rfl | rfl
    all_goals (
      simp only [Int.reduceEq, if_true, if_false] at c3
      have nS := True.intro
      repeat' (first|((with_reducible refine sg ?_);first|with_reducible rfl|((with_reducible refine fitG ?_);first|kernel_rfl|rfl|(simp [fitT,fitF,nS];done))|with_reducible refine andT ?_ ?_|with_reducible exact Nat.beq_refl _|with_reducible exact fitsI_u8 _|((with_reducible refine decide_eq_true ?_);first|omega|(simp only [SZl,nS];omega))|decide|(simp [SZl,slc,allOneD,D.one,allOne,AV.one,nS];done)|(simp [SZl,nS];omega))|((with_reducible refine gWl ?_);first|(refine Wl_isMv rfl ?_;refine Xmv eok rfl rfl rfl rfl ?_)|refine Xq eok rfl rfl rfl rfl ?_ ?_|refine Xn [0,2,3,4,5,6,10,23,34] rfl ?_|refine Xpan rfl rfl rfl ?_|refine XF (cR) rfl rfl rfl rfl ?_|refine XD [2,0] (c1) rfl rfl rfl ⟨rfl,rfl,trivial⟩ rfl rfl rfl rfl ?_|refine XD [0,2] (c2) rfl rfl rfl ⟨rfl,rfl,trivial⟩ rfl rfl rfl rfl ?_|refine XD [4,3,0,2] (c3) rfl rfl rfl ⟨rfl,rfl,rfl,rfl,trivial⟩ rfl rfl rfl rfl ?_|refine Xa eok rfl rfl rfl rfl rfl ?_ ?_|refine Xw eok rfl rfl rfl rfl ?_ ?_|refine Xs rfl rfl rfl ?_|(refine Xsplit rfl rfl (fun hc => ?_) (fun hc => ?_) <;> (fail_if_success (with_reducible first|exact tF hc|exact fT hc)) <;> (try simp only [HCl] at hc) <;> (try (exfalso;omega))))|((with_reducible refine gWd ?_);first|(refine Wd_isMv rfl ?_;refine Ymv eok rfl rfl (fun _ => rfl) rfl rfl ?_)|refine Yp eok rfl rfl (fun _ => rfl) rfl rfl ?_ ?_|refine Yq rfl rfl rfl rfl rfl ?_ ?_|refine Ys rfl rfl rfl rfl ?_|refine YF (cR) rfl rfl rfl rfl rfl ?_|refine YD [2,0] (c1) rfl rfl rfl rfl ⟨rfl,rfl,trivial⟩ rfl rfl rfl rfl ?_|refine YD [0,2] (c2) rfl rfl rfl rfl ⟨rfl,rfl,trivial⟩ rfl rfl rfl rfl ?_|refine YD [4,3,0,2] (c3) rfl rfl rfl rfl ⟨rfl,rfl,rfl,rfl,trivial⟩ rfl rfl rfl rfl ?_|refine Ya eok rfl rfl rfl rfl rfl rfl ?_ ?_|refine Yw eok rfl rfl rfl rfl rfl ?_ ?_|refine Yn [0,2,3,4,5,6,10,23,34] [(1,0),(2,0)] mixed eok (by kernel_rfl) (by simp only [extraL];repeat' (first|exact True.intro|refine And.intro ?_ ?_|exact ⟨_,rfl,rfl⟩|rfl)) rfl ?_|(refine Ysplit rfl rfl (fun hc => ?_) (fun hc => ?_) <;> (fail_if_success (with_reducible first|exact tF hc|exact fT hc)) <;> (try simp only [HCl] at hc) <;> (try (exfalso;omega))))|refine W_seq ?_|refine W_region ?_|refine W_any T.get ?_|refine W_skip ?_|refine W_ret ?_|refine W_block ?_|refine W_exit ?_|refine W_cond_t rfl ?_|refine W_cond_f rfl ?_|(refine W_cond rfl (fun hc => ?_) (fun hc => ?_) <;> (try simp only [HCl] at hc) <;> (try (exfalso;omega))))
      refine ⟨_, Read1_ret _, ?_⟩
      exact ⟨⟨[(2, .ptr 0 0 15), (3, .ptr 1 0 1)], [.c (mC ⟨k', c', s', d', ky', sl', dn', pl', pr', l', ⟨ik', iv', ir', ig'⟩, co'⟩), .c [.d (.i .i64 0)]], Tryz.f8.ntmps⟩, (TSub.cut rfl (by repeat' (first | exact True.intro | refine And.intro (by (first | rfl | ((with_reducible_and_instances refine congrArg (fun z => some (AV.d (D.i _ z))) ?_); omega) | (refine congrArg (fun z => some (AV.d (D.i _ z))) (?_ : (_ : Int) = _); omega) | (refine congrArg some ?_; simp; done))) ?_)) (by repeat' (first | exact True.intro | refine And.intro (Or.inr rfl) ?_ | refine And.intro (Or.inl ⟨rfl, rfl⟩) ?_ | refine And.intro (Or.inr (by simp)) ?_)) (by first | rfl | (simp (decide := true) [heapOk, Blk.ok, AV.oks, AV.ok, hk]; done)) rfl), Nat.zero_le _, _, _, rfl, rfl, rfl, rfl⟩)
  · rw [pMore_other m r hs] at h2
    simp only [Option.some.injEq, Prod.mk.injEq] at h2
    obtain ⟨rfl, rfl⟩ := h2
    unfold special at hs
    obtain ⟨k, c, s, d, ky, sl, dn, pl, pr, l, ⟨ik, iv, ir, ig⟩, co⟩ := m
    unfold hH at c1
    unfold Msg.d Msg.cells at cR ⊢
    simp only [mC, mapR, zeroM, zeroI] at *
    have hs : k = 0 ∨ k = 1 ∨ k = 2 ∨ k = 3 ∨ k = 8 ∨ k = 9 := by omega
    refine FnT_of_D (g := 29) (xs := [.ptr 0 0 15, .ptr 1 0 1]) eok Tryz.func8 rfl rfl (Nat.le_of_ble_eq_true rfl) ?_
    refine Ka eok rfl rfl rfl rfl rfl ?_ rfl
    refine Ka eok rfl rfl rfl rfl rfl ?_ rfl
    refine WlK_nil ?_
    refine Fq eok rfl rfl rfl rfl ?_ rfl
    refine WlF_defer rfl rfl rfl rfl rfl rfl ⟨_, Tryz.func29, rfl, rfl⟩ rfl ?_
    have nS := True.intro
    repeat' (first|((with_reducible refine sg ?_);first|with_reducible rfl|((with_reducible refine fitG ?_);first|kernel_rfl|rfl|(simp [fitT,fitF,nS];done))|with_reducible refine andT ?_ ?_|with_reducible exact Nat.beq_refl _|with_reducible exact fitsI_u8 _|((with_reducible refine decide_eq_true ?_);first|omega|(simp only [SZl,nS];omega))|decide|(simp [SZl,slc,allOneD,D.one,allOne,AV.one,nS];done)|(simp [SZl,nS];omega))|((with_reducible refine gWl ?_);first|(refine Wl_isMv rfl ?_;refine Xmv eok rfl rfl rfl rfl ?_)|refine Xq eok rfl rfl rfl rfl ?_ ?_|refine Xn [0,2,3,4,5,6,10,23,34] rfl ?_|refine Xpan rfl rfl rfl ?_|refine Xa eok rfl rfl rfl rfl rfl ?_ ?_|refine Xw eok rfl rfl rfl rfl ?_ ?_|refine Xs rfl rfl rfl ?_|(refine Xsplit rfl rfl (fun hc => ?_) (fun hc => ?_) <;> (fail_if_success (with_reducible first|exact tF hc|exact fT hc)) <;> (try simp only [HCl] at hc) <;> (try (exfalso;omega))))|((with_reducible refine gWd ?_);first|(refine Wd_isMv rfl ?_;refine Ymv eok rfl rfl (fun _ => rfl) rfl rfl ?_)|refine Yp eok rfl rfl (fun _ => rfl) rfl rfl ?_ ?_|refine Yq rfl rfl rfl rfl rfl ?_ ?_|refine Ys rfl rfl rfl rfl ?_|refine Ya eok rfl rfl rfl rfl rfl rfl ?_ ?_|refine Yw eok rfl rfl rfl rfl rfl ?_ ?_|refine Yn [0,2,3,4,5,6,10,23,34] [] mixed eok (by kernel_rfl) True.intro rfl ?_|(refine Ysplit rfl rfl (fun hc => ?_) (fun hc => ?_) <;> (fail_if_success (with_reducible first|exact tF hc|exact fT hc)) <;> (try simp only [HCl] at hc) <;> (try (exfalso;omega))))|refine W_seq ?_|refine W_regionS [5] rfl ?_|refine W_anyS [5] T.get rfl ?_|refine W_skip ?_|refine W_ret ?_|refine W_block ?_|refine W_exit ?_|refine W_cond_t rfl ?_|refine W_cond_f rfl ?_|(refine W_cond rfl (fun hc => ?_) (fun hc => ?_) <;> (try simp only [HCl] at hc) <;> (try (exfalso;omega))))
    refine W_ghost (TSub.e0c 0 9 (.is []) rfl rfl rfl rfl trivial) (by simp) ?_
    clear h
    rcases hs with rfl | rfl | rfl | rfl | rfl | rfl
    all_goals (
      have nS := True.intro
      repeat' (first|((with_reducible refine sg ?_);first|with_reducible rfl|((with_reducible refine fitG ?_);first|kernel_rfl|rfl|(simp [fitT,fitF,nS];done))|with_reducible refine andT ?_ ?_|with_reducible exact Nat.beq_refl _|with_reducible exact fitsI_u8 _|((with_reducible refine decide_eq_true ?_);first|omega|(simp only [SZl,nS];omega))|decide|(simp [SZl,slc,allOneD,D.one,allOne,AV.one,nS];done)|(simp [SZl,nS];omega))|((with_reducible refine gWl ?_);first|(refine Wl_isMv rfl ?_;refine Xmv eok rfl rfl rfl rfl ?_)|refine Xq eok rfl rfl rfl rfl ?_ ?_|refine Xn [0,2,3,4,5,6,10,23,34] rfl ?_|refine Xpan rfl rfl rfl ?_|refine XF (cR) rfl rfl rfl rfl ?_|refine XD [2,0] (c1) rfl rfl rfl ⟨rfl,rfl,trivial⟩ rfl rfl rfl rfl ?_|refine XD [0,2] (c2) rfl rfl rfl ⟨rfl,rfl,trivial⟩ rfl rfl rfl rfl ?_|refine Xa eok rfl rfl rfl rfl rfl ?_ ?_|refine Xw eok rfl rfl rfl rfl ?_ ?_|refine Xs rfl rfl rfl ?_|(refine Xsplit rfl rfl (fun hc => ?_) (fun hc => ?_) <;> (fail_if_success (with_reducible first|exact tF hc|exact fT hc)) <;> (try simp only [HCl] at hc) <;> (try (exfalso;omega))))|((with_reducible refine gWd ?_);first|(refine Wd_isMv rfl ?_;refine Ymv eok rfl rfl (fun _ => rfl) rfl rfl ?_)|refine Yp eok rfl rfl (fun _ => rfl) rfl rfl ?_ ?_|refine Yq rfl rfl rfl rfl rfl ?_ ?_|refine Ys rfl rfl rfl rfl ?_|refine YF (cR) rfl rfl rfl rfl rfl ?_|refine YD [2,0] (c1) rfl rfl rfl rfl ⟨rfl,rfl,trivial⟩ rfl rfl rfl rfl ?_|refine YD [0,2] (c2) rfl rfl rfl rfl ⟨rfl,rfl,trivial⟩ rfl rfl rfl rfl ?_|refine Ya eok rfl rfl rfl rfl rfl rfl ?_ ?_|refine Yw eok rfl rfl rfl rfl rfl ?_ ?_|refine Yn [0,2,3,4,5,6,10,23,34] [(1,0),(2,0)] mixed eok (by kernel_rfl) (by simp only [extraL];repeat' (first|exact True.intro|refine And.intro ?_ ?_|exact ⟨_,rfl,rfl⟩|rfl)) rfl ?_|(refine Ysplit rfl rfl (fun hc => ?_) (fun hc => ?_) <;> (fail_if_success (with_reducible first|exact tF hc|exact fT hc)) <;> (try simp only [HCl] at hc) <;> (try (exfalso;omega))))|refine W_seq ?_|refine W_region ?_|refine W_any T.get ?_|refine W_skip ?_|refine W_ret ?_|refine W_block ?_|refine W_exit ?_|refine W_cond_t rfl ?_|refine W_cond_f rfl ?_|(refine W_cond rfl (fun hc => ?_) (fun hc => ?_) <;> (try simp only [HCl] at hc) <;> (try (exfalso;omega))))
      refine ⟨_, Read1_ret _, ?_⟩
      exact ⟨⟨[(2, .ptr 0 0 15), (3, .ptr 1 0 1)], [.c (mC ⟨_, c, s, d, ky, sl, dn, pl, pr, l, ⟨ik, iv, ir, ig⟩, co⟩), .c [.d (.i .i64 0)]], Tryz.f8.ntmps⟩, (TSub.cut rfl (by repeat' (first | exact True.intro | refine And.intro (by (first | rfl | ((with_reducible_and_instances refine congrArg (fun z => some (AV.d (D.i _ z))) ?_); omega) | (refine congrArg (fun z => some (AV.d (D.i _ z))) (?_ : (_ : Int) = _); omega) | (refine congrArg some ?_; simp; done))) ?_)) (by repeat' (first | exact True.intro | refine And.intro (Or.inr rfl) ?_ | refine And.intro (Or.inl ⟨rfl, rfl⟩) ?_ | refine And.intro (Or.inr (by simp)) ?_)) (by first | rfl | (simp (decide := true) [heapOk, Blk.ok, AV.oks, AV.ok, hk]; done)) rfl), Nat.zero_le _, _, _, rfl, rfl, rfl, rfl⟩)
theorem frz_zero {H : List Blk} : Frz H rRes (.tup [zeroM.d, .i .i64 12]) := by
  simp [rRes, zC, zeroM, zeroI, Msg.d, Msg.cells, Frz_tup, Frz_ag, Frzs_cons, Frzs_nil, Frz_d, Frz_e0, isSl, sln, slOk]
theorem Read_fn (b : List UInt8) : Go.Gar.Fn Tryz.prog 8 [.by b] (.tup [(readS b).1.d, .i .i64 (readS b).2]) := by
  by_cases h0 : 46 < b.length
  · have e : readS b = (zeroM, 12) := if_pos h0
    rw [e]; exact Fn_of_D (ds := [.by b]) (Read_A b h0) frz_zero
  cases h1 : pHead zeroM b with
  | none =>
    have e : readS b = (zeroM, 12) := by unfold readS; rw [if_neg h0, h1]
    rw [e]; exact Fn_of_D (ds := [.by b]) (Read_B b (by omega) h1) frz_zero
  | some p =>
  obtain ⟨m, r⟩ := p
  cases h2 : pMore m r with
  | none =>
    have e : readS b = (zeroM, 12) := by unfold readS; rw [if_neg h0, h1]; simp only [h2]
    rw [e]; exact Fn_of_D (ds := [.by b]) (Read_C b (by omega) m r h1 h2) frz_zero
  | some p =>
  obtain ⟨m', r'⟩ := p
  by_cases h3 : r' = [] ∧ m'.right = true
  · have e : readS b = (m', 0) := by unfold readS; rw [if_neg h0, h1]; simp only [h2]; rw [if_pos h3]
    rw [e]
    obtain ⟨rfl, h4⟩ := h3
    refine Fn_of_D (ds := [.by b]) (Read_yes b (by omega) m m' r h1 h2 h4) ?_
    simp [Frz_tup, Frzs_cons, Frzs_nil, Frz_d]
  · have e : readS b = (zeroM, 12) := by unfold readS; rw [if_neg h0, h1]; simp only [h2]; rw [if_neg h3]
    rw [e]; exact Fn_of_D (ds := [.by b]) (Read_D b (by omega) m m' r r' h1 h2 h3) frz_zero
end Wi
end Go.Proofs.YtbpemnmpcljbpaaGreat
