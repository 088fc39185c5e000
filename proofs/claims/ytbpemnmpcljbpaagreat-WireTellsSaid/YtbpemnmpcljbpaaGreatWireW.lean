/- Written by a program (pre.py) from the source of the same name. -/
/- Payloads: read, all of it. -/
import Derived.Test.YtbpemnmpcljbpaaGreatWireV
import Derived.Test.YtbpemnmpcljbpaaGreatFwE
set_option linter.unusedSimpArgs false
set_option linter.unusedVariables false
set_option linter.unnecessarySimpa false
namespace Go.Proofs.YtbpemnmpcljbpaaGreat
namespace Wi
open Go.Gar
set_option maxRecDepth 4000

def readS (b : List UInt8) : Msg × Int :=
  if 46 < b.length then (zeroM, 12) else match pHead zeroM b with
  | none => (zeroM, 12)
  | some (m, r) => match pMore m r with
    | none => (zeroM, 12)
    | some (m', r') => if r' = [] ∧ m'.right = true then (m', 0) else (zeroM, 12)
theorem takesS_len : ∀ (k : Nat) (b : List UInt8) (acc : List Int), (takesS k b acc).1.length ≤ k + acc.length ∧ (takesS k b acc).2.1.length ≤ b.length
  | 0, b, acc => by simp [takesS]
  | k + 1, b, acc => by
    simp only [takesS]
    split
    · have ih := takesS_len k (takeS b).2.1 (acc ++ [((takeS b).1 : Int)])
      have hl := takeS_len b
      simp only [List.length_append, List.length_cons, List.length_nil] at ih
      omega
    · simp
theorem pList_le {b r : List UInt8} {l : List Int} (h : pList b = some (l, r)) : l.length ≤ 255 ∧ r.length ≤ b.length := by
  have e := pList_some h
  unfold takeListS at e
  split at e
  · simp at e
  · rename_i m q
    have hl := takesS_len m.toNat q []
    rw [e] at hl
    have := m.toNat_lt
    simp only [List.length_nil, List.length_cons] at hl ⊢
    omega
theorem pMore_le {m m' : Msg} {b r : List UInt8} (h : pMore m b = some (m', r)) (hl : m.list.length ≤ 255) : m'.list.length ≤ 255 ∧ r.length ≤ b.length := by
  unfold pMore at h
  split at h
  · split at h
    · cases h
    · rename_i n b1 h1
      split at h
      · cases h
      · rename_i g b2 h2
        have := pNum_len h1
        have := pFlag_len h2
        cases h; exact ⟨hl, by omega⟩
  split at h
  · split at h
    · cases h
    · rename_i x b1 h1
      have := pPair_len h1
      cases h; exact ⟨hl, by omega⟩
  split at h
  · split at h
    · cases h
    · rename_i x b1 h1
      have := pText_len h1
      cases h; exact ⟨hl, by omega⟩
  split at h
  · split at h
    · cases h
    · rename_i n b1 h1
      split at h
      · cases h
      · rename_i g b2 h2
        have := pNum_len h1
        have := pList_le h2
        cases h; exact ⟨this.1, by omega⟩
  split at h
  · split at h
    · cases h
    · rename_i n b1 h1
      split at h
      · cases h
      · rename_i g b2 h2
        have := pNum_len h1
        have := pFlag_len h2
        cases h; exact ⟨hl, by omega⟩
  split at h
  · split at h
    · cases h
    · rename_i n b1 h1
      have := pNum_len h1
      cases h; exact ⟨hl, by omega⟩
  split at h
  · split at h
    · cases h
    · rename_i n b1 h1
      have := pNum_len h1
      split at h
      · split at h
        · cases h
        · rename_i x b2 h2
          have := pPair_len h2
          cases h; exact ⟨hl, by omega⟩
      · cases h; exact ⟨hl, by omega⟩
  · cases h; exact ⟨hl, by omega⟩
theorem pHead_kind {b r : List UInt8} {m : Msg} (h : pHead zeroM b = some (m, r)) : 0 ≤ m.kind ∧ m.kind < 13 ∧ m.list = [] := by
  unfold pHead at h
  split at h
  · cases h
  rename_i k b1 h1
  split at h
  · cases h
  split at h
  · cases h
  rename_i c b2 h2
  split at h
  · cases h
  rename_i s b3 h3
  split at h
  · cases h
  rename_i d b4 h4
  simp only [Option.some.injEq, Prod.mk.injEq] at h
  obtain ⟨rfl, rfl⟩ := h
  exact ⟨by show (0 : Int) ≤ (k : Int); omega, by show (k : Int) < 13; omega, rfl⟩
abbrev rRes : AV := .tup [.ag zC, .d (.i .i64 12)]
abbrev rHp : List Blk := [.c zC, .c [.d (.i .i64 12)]]
set_option maxHeartbeats 4000000 in
theorem Read_A (b : List UInt8) (h : 46 < b.length) : FnD Tryz.prog 8 [.d (.by b)] [] rRes rHp := by
  refine FnT_of_D (g := 29) (xs := [.ptr 0 0 15, .ptr 1 0 1]) eok Tryz.func8 rfl rfl (Nat.le_of_ble_eq_true rfl) ?_
  refine Ka eok rfl rfl rfl rfl rfl ?_ rfl
  refine Ka eok rfl rfl rfl rfl rfl ?_ rfl
  refine WlK_nil ?_
  refine Fq eok rfl rfl rfl rfl ?_ rfl
  refine WlF_defer rfl rfl rfl rfl rfl rfl ⟨_, Tryz.func29, rfl, rfl⟩ rfl ?_
  have nS := True.intro
  repeat' (first|((with_reducible refine sg ?_);first|with_reducible rfl|((with_reducible refine fitG ?_);first|kernel_rfl|rfl|(simp [fitT,fitF,nS];done))|with_reducible refine andT ?_ ?_|with_reducible exact Nat.beq_refl _|with_reducible exact fitsI_u8 _|((with_reducible refine decide_eq_true ?_);first|omega|(simp only [SZl,nS];omega))|decide|(simp [SZl,slc,allOneD,D.one,allOne,AV.one,nS];done)|(simp [SZl,nS];omega))|((with_reducible refine gWl ?_);first|(refine Wl_isMv rfl ?_;refine Xmv eok rfl rfl rfl rfl ?_)|refine Xq eok rfl rfl rfl rfl ?_ ?_|refine Xn [0,2,3,4,5,6,10,23,34] rfl ?_|refine Xpan rfl rfl rfl ?_|refine Xa eok rfl rfl rfl rfl rfl ?_ ?_|refine Xw eok rfl rfl rfl rfl ?_ ?_|refine Xs rfl rfl rfl ?_|(refine Xsplit rfl rfl (fun hc => ?_) (fun hc => ?_) <;> (fail_if_success (with_reducible first|exact tF hc|exact fT hc)) <;> (try simp only [HCl] at hc) <;> (try (exfalso;omega))))|((with_reducible refine gWd ?_);first|(refine Wd_isMv rfl ?_;refine Ymv eok rfl rfl (fun _ => rfl) rfl rfl ?_)|refine Yp eok rfl rfl (fun _ => rfl) rfl rfl ?_ ?_|refine Yq rfl rfl rfl rfl rfl ?_ ?_|refine Ys rfl rfl rfl rfl ?_|refine Ya eok rfl rfl rfl rfl rfl rfl ?_ ?_|refine Yw eok rfl rfl rfl rfl rfl ?_ ?_|refine Yn [0,2,3,4,5,6,10,23,34] [] mixed eok (by kernel_rfl) True.intro rfl ?_|(refine Ysplit rfl rfl (fun hc => ?_) (fun hc => ?_) <;> (fail_if_success (with_reducible first|exact tF hc|exact fT hc)) <;> (try simp only [HCl] at hc) <;> (try (exfalso;omega))))|refine W_seq ?_|refine W_region ?_|refine W_any T.get ?_|refine W_skip ?_|refine W_ret ?_|refine W_block ?_|refine W_exit ?_|refine W_cond_t rfl ?_|refine W_cond_f rfl ?_|(refine W_cond rfl (fun hc => ?_) (fun hc => ?_) <;> (try simp only [HCl] at hc) <;> (try (exfalso;omega))))
  refine ⟨_, Read1_pan _ _ _ _ _ _ _ _ _ _ _ _ _ _ _ _ _ 12, ?_⟩
  exact ⟨⟨[(2, .ptr 0 0 15), (3, .ptr 1 0 1)], rHp, Tryz.f8.ntmps⟩, (TSub.cut rfl (by repeat' (first | exact True.intro | refine And.intro (by (first | rfl | ((with_reducible_and_instances refine congrArg (fun z => some (AV.d (D.i _ z))) ?_); omega) | (refine congrArg (fun z => some (AV.d (D.i _ z))) (?_ : (_ : Int) = _); omega) | (refine congrArg some ?_; simp; done))) ?_)) (by repeat' (first | exact True.intro | refine And.intro (Or.inr rfl) ?_ | refine And.intro (Or.inl ⟨rfl, rfl⟩) ?_ | refine And.intro (Or.inr (by simp)) ?_)) (by first | rfl | (simp (decide := true) [heapOk, Blk.ok, AV.oks, AV.ok, hk]; done)) rfl), Nat.zero_le _, _, _, rfl, rfl, rfl, rfl⟩
set_option maxHeartbeats 4000000 in
theorem Read_B (b : List UInt8) (hb : b.length ≤ 46) (h : pHead zeroM b = none) : FnD Tryz.prog 8 [.d (.by b)] [] rRes rHp := by
  have c1 := head_no zeroM b (by omega) h
  unfold hH at c1
  simp only [mC, zeroM, zeroI] at c1
  refine FnT_of_D (g := 29) (xs := [.ptr 0 0 15, .ptr 1 0 1]) eok Tryz.func8 rfl rfl (Nat.le_of_ble_eq_true rfl) ?_
  refine Ka eok rfl rfl rfl rfl rfl ?_ rfl
  refine Ka eok rfl rfl rfl rfl rfl ?_ rfl
  refine WlK_nil ?_
  refine Fq eok rfl rfl rfl rfl ?_ rfl
  refine WlF_defer rfl rfl rfl rfl rfl rfl ⟨_, Tryz.func29, rfl, rfl⟩ rfl ?_
  have nS := True.intro
  repeat' (first|((with_reducible refine sg ?_);first|with_reducible rfl|((with_reducible refine fitG ?_);first|kernel_rfl|rfl|(simp [fitT,fitF,nS];done))|with_reducible refine andT ?_ ?_|with_reducible exact Nat.beq_refl _|with_reducible exact fitsI_u8 _|((with_reducible refine decide_eq_true ?_);first|omega|(simp only [SZl,nS];omega))|decide|(simp [SZl,slc,allOneD,D.one,allOne,AV.one,nS];done)|(simp [SZl,nS];omega))|((with_reducible refine gWl ?_);first|(refine Wl_isMv rfl ?_;refine Xmv eok rfl rfl rfl rfl ?_)|refine Xq eok rfl rfl rfl rfl ?_ ?_|refine Xn [0,2,3,4,5,6,10,23,34] rfl ?_|refine Xpan rfl rfl rfl ?_|refine Xa eok rfl rfl rfl rfl rfl ?_ ?_|refine Xw eok rfl rfl rfl rfl ?_ ?_|refine Xs rfl rfl rfl ?_|(refine Xsplit rfl rfl (fun hc => ?_) (fun hc => ?_) <;> (fail_if_success (with_reducible first|exact tF hc|exact fT hc)) <;> (try simp only [HCl] at hc) <;> (try (exfalso;omega))))|((with_reducible refine gWd ?_);first|(refine Wd_isMv rfl ?_;refine Ymv eok rfl rfl (fun _ => rfl) rfl rfl ?_)|refine Yp eok rfl rfl (fun _ => rfl) rfl rfl ?_ ?_|refine Yq rfl rfl rfl rfl rfl ?_ ?_|refine Ys rfl rfl rfl rfl ?_|refine Ya eok rfl rfl rfl rfl rfl rfl ?_ ?_|refine Yw eok rfl rfl rfl rfl rfl ?_ ?_|refine Yn [0,2,3,4,5,6,10,23,34] [] mixed eok (by kernel_rfl) True.intro rfl ?_|(refine Ysplit rfl rfl (fun hc => ?_) (fun hc => ?_) <;> (fail_if_success (with_reducible first|exact tF hc|exact fT hc)) <;> (try simp only [HCl] at hc) <;> (try (exfalso;omega))))|refine W_seq ?_|refine W_regionS [5] rfl ?_|refine W_anyS [5] T.get rfl ?_|refine W_skip ?_|refine W_ret ?_|refine W_block ?_|refine W_exit ?_|refine W_cond_t rfl ?_|refine W_cond_f rfl ?_|(refine W_cond rfl (fun hc => ?_) (fun hc => ?_) <;> (try simp only [HCl] at hc) <;> (try (exfalso;omega))))
  refine W_ghost (TSub.e0c 0 9 (.is []) rfl rfl rfl rfl trivial) (by simp) ?_
  have nS := True.intro
  repeat' (first|((with_reducible refine sg ?_);first|with_reducible rfl|((with_reducible refine fitG ?_);first|kernel_rfl|rfl|(simp [fitT,fitF,nS];done))|with_reducible refine andT ?_ ?_|with_reducible exact Nat.beq_refl _|with_reducible exact fitsI_u8 _|((with_reducible refine decide_eq_true ?_);first|omega|(simp only [SZl,nS];omega))|decide|(simp [SZl,slc,allOneD,D.one,allOne,AV.one,nS];done)|(simp [SZl,nS];omega))|((with_reducible refine gWl ?_);first|(refine Wl_isMv rfl ?_;refine Xmv eok rfl rfl rfl rfl ?_)|refine Xq eok rfl rfl rfl rfl ?_ ?_|refine Xn [0,2,3,4,5,6,10,23,34] rfl ?_|refine Xpan rfl rfl rfl ?_|refine XX [2,0] (c1) rfl rfl ⟨rfl,rfl,trivial⟩ rfl rfl rfl ?_|refine Xa eok rfl rfl rfl rfl rfl ?_ ?_|refine Xw eok rfl rfl rfl rfl ?_ ?_|refine Xs rfl rfl rfl ?_|(refine Xsplit rfl rfl (fun hc => ?_) (fun hc => ?_) <;> (fail_if_success (with_reducible first|exact tF hc|exact fT hc)) <;> (try simp only [HCl] at hc) <;> (try (exfalso;omega))))|((with_reducible refine gWd ?_);first|(refine Yd ?_ rfl rfl rfl ?_;focus (simp only [deadAt,List.reverse_cons,List.reverse_nil,List.nil_append,List.map_append,List.map_cons,List.map_nil,List.cons_append,panAt,List.length_cons,List.length_nil,List.any_cons,List.any_nil,Kd.isE,Bool.or_false,Bool.false_or,Bool.false_eq_true,if_false];decide +kernel))|(refine Wd_isMv rfl ?_;refine Ymv eok rfl rfl (fun _ => rfl) rfl rfl ?_)|refine Yp eok rfl rfl (fun _ => rfl) rfl rfl ?_ ?_|refine Yq rfl rfl rfl rfl rfl ?_ ?_|refine Ys rfl rfl rfl rfl ?_|refine Ya eok rfl rfl rfl rfl rfl rfl ?_ ?_|refine Yw eok rfl rfl rfl rfl rfl ?_ ?_|refine YX [2,0] (c1) rfl rfl rfl rfl ⟨rfl,rfl,trivial⟩ rfl rfl rfl rfl ?_|refine YnX [] mixed eok rfl (by kernel_rfl) True.intro ?_|refine Yn [0,2,3,4,5,6,10,23,34] [] mixed eok (by kernel_rfl) True.intro rfl ?_|(refine Ysplit rfl rfl (fun hc => ?_) (fun hc => ?_) <;> (fail_if_success (with_reducible first|exact tF hc|exact fT hc)) <;> (try simp only [HCl] at hc) <;> (try (exfalso;omega))))|refine W_seq ?_|refine W_region ?_|refine W_any T.get ?_|refine W_skip ?_|refine W_ret ?_|refine W_block ?_|refine W_exit ?_|refine W_cond_t rfl ?_|refine W_cond_f rfl ?_|(refine W_cond rfl (fun hc => ?_) (fun hc => ?_) <;> (try simp only [HCl] at hc) <;> (try (exfalso;omega))))
  refine ⟨_, Read1_pan _ _ _ _ _ _ _ _ _ _ _ _ _ _ _ _ _ 12, ?_⟩
  exact ⟨⟨[(2, .ptr 0 0 15), (3, .ptr 1 0 1)], rHp, Tryz.f8.ntmps⟩, (TSub.cut rfl (by repeat' (first | exact True.intro | refine And.intro (by (first | rfl | ((with_reducible_and_instances refine congrArg (fun z => some (AV.d (D.i _ z))) ?_); omega) | (refine congrArg (fun z => some (AV.d (D.i _ z))) (?_ : (_ : Int) = _); omega) | (refine congrArg some ?_; simp; done))) ?_)) (by repeat' (first | exact True.intro | refine And.intro (Or.inr rfl) ?_ | refine And.intro (Or.inl ⟨rfl, rfl⟩) ?_ | refine And.intro (Or.inr (by simp)) ?_)) (by first | rfl | (simp (decide := true) [heapOk, Blk.ok, AV.oks, AV.ok, hk]; done)) rfl), Nat.zero_le _, _, _, rfl, rfl, rfl, rfl⟩
set_option maxHeartbeats 16000000 in
theorem Read_C (b : List UInt8) (hb : b.length ≤ 46) (m : Msg) (r : List UInt8) (h : pHead zeroM b = some (m, r)) (h2 : pMore m r = none) : FnD Tryz.prog 8 [.d (.by b)] [] rRes rHp := by
  have c1 := head_ok zeroM b (by omega) m r h
  have l1 := pHead_len h
  obtain ⟨hk1, hk2, hk3⟩ := pHead_kind h
  have c2 := reads_own m r
  have c3 := more_no m r (by omega) h2
  have hs : special m.kind := Classical.byContradiction fun hs => by rw [pMore_other m r hs] at h2; cases h2
  unfold special at hs
  obtain ⟨k, c, s, d, ky, sl, dn, pl, pr, l, ⟨ik, iv, ir, ig⟩, co⟩ := m
  unfold hH at c1
  simp only [mC, mapR, zeroM, zeroI] at *
  unfold gH gX at c3
  simp only [mC, moreF] at c3
  refine FnT_of_D (g := 29) (xs := [.ptr 0 0 15, .ptr 1 0 1]) eok Tryz.func8 rfl rfl (Nat.le_of_ble_eq_true rfl) ?_
  refine Ka eok rfl rfl rfl rfl rfl ?_ rfl
  refine Ka eok rfl rfl rfl rfl rfl ?_ rfl
  refine WlK_nil ?_
  refine Fq eok rfl rfl rfl rfl ?_ rfl
  refine WlF_defer rfl rfl rfl rfl rfl rfl ⟨_, Tryz.func29, rfl, rfl⟩ rfl ?_
  have nS := True.intro
  repeat' (first|((with_reducible refine sg ?_);first|with_reducible rfl|((with_reducible refine fitG ?_);first|kernel_rfl|rfl|(simp [fitT,fitF,nS];done))|with_reducible refine andT ?_ ?_|with_reducible exact Nat.beq_refl _|with_reducible exact fitsI_u8 _|((with_reducible refine decide_eq_true ?_);first|omega|(simp only [SZl,nS];omega))|decide|(simp [SZl,slc,allOneD,D.one,allOne,AV.one,nS];done)|(simp [SZl,nS];omega))|((with_reducible refine gWl ?_);first|(refine Wl_isMv rfl ?_;refine Xmv eok rfl rfl rfl rfl ?_)|refine Xq eok rfl rfl rfl rfl ?_ ?_|refine Xn [0,2,3,4,5,6,10,23,34] rfl ?_|refine Xpan rfl rfl rfl ?_|refine Xa eok rfl rfl rfl rfl rfl ?_ ?_|refine Xw eok rfl rfl rfl rfl ?_ ?_|refine Xs rfl rfl rfl ?_|(refine Xsplit rfl rfl (fun hc => ?_) (fun hc => ?_) <;> (fail_if_success (with_reducible first|exact tF hc|exact fT hc)) <;> (try simp only [HCl] at hc) <;> (try (exfalso;omega))))|((with_reducible refine gWd ?_);first|(refine Wd_isMv rfl ?_;refine Ymv eok rfl rfl (fun _ => rfl) rfl rfl ?_)|refine Yp eok rfl rfl (fun _ => rfl) rfl rfl ?_ ?_|refine Yq rfl rfl rfl rfl rfl ?_ ?_|refine Ys rfl rfl rfl rfl ?_|refine Ya eok rfl rfl rfl rfl rfl rfl ?_ ?_|refine Yw eok rfl rfl rfl rfl rfl ?_ ?_|refine Yn [0,2,3,4,5,6,10,23,34] [] mixed eok (by kernel_rfl) True.intro rfl ?_|(refine Ysplit rfl rfl (fun hc => ?_) (fun hc => ?_) <;> (fail_if_success (with_reducible first|exact tF hc|exact fT hc)) <;> (try simp only [HCl] at hc) <;> (try (exfalso;omega))))|refine W_seq ?_|refine W_regionS [5] rfl ?_|refine W_anyS [5] T.get rfl ?_|refine W_skip ?_|refine W_ret ?_|refine W_block ?_|refine W_exit ?_|refine W_cond_t rfl ?_|refine W_cond_f rfl ?_|(refine W_cond rfl (fun hc => ?_) (fun hc => ?_) <;> (try simp only [HCl] at hc) <;> (try (exfalso;omega))))
  refine W_ghost (TSub.e0c 0 9 (.is []) rfl rfl rfl rfl trivial) (by simp) ?_
  clear h h2
  rcases hs with rfl | rfl | rfl | rfl | rfl | rfl | rfl
  all_goals (
    simp only [Int.reduceEq, if_true, if_false] at c3
    have nS := True.intro
    repeat' (first|((with_reducible refine sg ?_);first|with_reducible rfl|((with_reducible refine fitG ?_);first|kernel_rfl|rfl|(simp [fitT,fitF,nS];done))|with_reducible refine andT ?_ ?_|with_reducible exact Nat.beq_refl _|with_reducible exact fitsI_u8 _|((with_reducible refine decide_eq_true ?_);first|omega|(simp only [SZl,nS];omega))|decide|(simp [SZl,slc,allOneD,D.one,allOne,AV.one,nS];done)|(simp [SZl,nS];omega))|((with_reducible refine gWl ?_);first|(refine Wl_isMv rfl ?_;refine Xmv eok rfl rfl rfl rfl ?_)|refine Xq eok rfl rfl rfl rfl ?_ ?_|refine Xn [0,2,3,4,5,6,10,23,34] rfl ?_|refine Xpan rfl rfl rfl ?_|refine XX [4,3,0,2] (c3) rfl rfl ⟨rfl,rfl,rfl,rfl,trivial⟩ rfl rfl rfl ?_|refine XD [2,0] (c1) rfl rfl rfl ⟨rfl,rfl,trivial⟩ rfl rfl rfl rfl ?_|refine XD [0,2] (c2) rfl rfl rfl ⟨rfl,rfl,trivial⟩ rfl rfl rfl rfl ?_|refine Xa eok rfl rfl rfl rfl rfl ?_ ?_|refine Xw eok rfl rfl rfl rfl ?_ ?_|refine Xs rfl rfl rfl ?_|(refine Xsplit rfl rfl (fun hc => ?_) (fun hc => ?_) <;> (fail_if_success (with_reducible first|exact tF hc|exact fT hc)) <;> (try simp only [HCl] at hc) <;> (try (exfalso;omega))))|((with_reducible refine gWd ?_);first|(refine Yd ?_ rfl rfl rfl ?_;focus (simp only [deadAt,List.reverse_cons,List.reverse_nil,List.nil_append,List.map_append,List.map_cons,List.map_nil,List.cons_append,panAt,List.length_cons,List.length_nil,List.any_cons,List.any_nil,Kd.isE,Bool.or_false,Bool.false_or,Bool.false_eq_true,if_false];decide +kernel))|(refine Wd_isMv rfl ?_;refine Ymv eok rfl rfl (fun _ => rfl) rfl rfl ?_)|refine Yp eok rfl rfl (fun _ => rfl) rfl rfl ?_ ?_|refine Yq rfl rfl rfl rfl rfl ?_ ?_|refine Ys rfl rfl rfl rfl ?_|refine YD [2,0] (c1) rfl rfl rfl rfl ⟨rfl,rfl,trivial⟩ rfl rfl rfl rfl ?_|refine YD [0,2] (c2) rfl rfl rfl rfl ⟨rfl,rfl,trivial⟩ rfl rfl rfl rfl ?_|refine Ya eok rfl rfl rfl rfl rfl rfl ?_ ?_|refine Yw eok rfl rfl rfl rfl rfl ?_ ?_|refine YX [4,3,0,2] (c3) rfl rfl rfl rfl ⟨rfl,rfl,rfl,rfl,trivial⟩ rfl rfl rfl rfl ?_|refine YnX [(1,0),(2,0)] mixed eok rfl (by kernel_rfl) (by simp only [extraL];repeat' (first|exact True.intro|refine And.intro ?_ ?_|exact ⟨_,rfl,rfl⟩|rfl)) ?_|refine Yn [0,2,3,4,5,6,10,23,34] [(1,0),(2,0)] mixed eok (by kernel_rfl) (by simp only [extraL];repeat' (first|exact True.intro|refine And.intro ?_ ?_|exact ⟨_,rfl,rfl⟩|rfl)) rfl ?_|(refine Ysplit rfl rfl (fun hc => ?_) (fun hc => ?_) <;> (fail_if_success (with_reducible first|exact tF hc|exact fT hc)) <;> (try simp only [HCl] at hc) <;> (try (exfalso;omega))))|refine W_seq ?_|refine W_region ?_|refine W_any T.get ?_|refine W_skip ?_|refine W_ret ?_|refine W_block ?_|refine W_exit ?_|refine W_cond_t rfl ?_|refine W_cond_f rfl ?_|(refine W_cond rfl (fun hc => ?_) (fun hc => ?_) <;> (try simp only [HCl] at hc) <;> (try (exfalso;omega))))
    refine ⟨_, Read1_pan _ _ _ _ _ _ _ _ _ _ _ _ _ _ _ _ _ 12, ?_⟩
    exact ⟨⟨[(2, .ptr 0 0 15), (3, .ptr 1 0 1)], rHp, Tryz.f8.ntmps⟩, (TSub.cut rfl (by repeat' (first | exact True.intro | refine And.intro (by (first | rfl | ((with_reducible_and_instances refine congrArg (fun z => some (AV.d (D.i _ z))) ?_); omega) | (refine congrArg (fun z => some (AV.d (D.i _ z))) (?_ : (_ : Int) = _); omega) | (refine congrArg some ?_; simp; done))) ?_)) (by repeat' (first | exact True.intro | refine And.intro (Or.inr rfl) ?_ | refine And.intro (Or.inl ⟨rfl, rfl⟩) ?_ | refine And.intro (Or.inr (by simp)) ?_)) (by first | rfl | (simp (decide := true) [heapOk, Blk.ok, AV.oks, AV.ok, hk]; done)) rfl), Nat.zero_le _, _, _, rfl, rfl, rfl, rfl⟩)
set_option maxHeartbeats 16000000 in
theorem Read_D (b : List UInt8) (hb : b.length ≤ 46) (m m' : Msg) (r r' : List UInt8) (h : pHead zeroM b = some (m, r)) (h2 : pMore m r = some (m', r')) (h3 : ¬ (r' = [] ∧ m'.right = true)) : FnD Tryz.prog 8 [.d (.by b)] [] rRes rHp := by
  have c1 := head_ok zeroM b (by omega) m r h
  have l1 := pHead_len h
  obtain ⟨hk1, hk2, hk3⟩ := pHead_kind h
  have c2 := reads_own m r
  have hl := pMore_le h2 (by rw [hk3]; simp)
  have cR := Right_fn m' (by omega)
  by_cases hs : special m.kind
  · have c3 := more_ok m r (by omega) m' r' h2 hs
    unfold special at hs
    obtain ⟨k, c, s, d, ky, sl, dn, pl, pr, l, ⟨ik, iv, ir, ig⟩, co⟩ := m
    obtain ⟨k', c', s', d', ky', sl', dn', pl', pr', l', ⟨ik', iv', ir', ig'⟩, co'⟩ := m'
    unfold hH at c1
    unfold gH at c3
    unfold Msg.d Msg.cells at cR
    simp only [mC, mapR, zeroM, zeroI, moreF] at *
    refine FnT_of_D (g := 29) (xs := [.ptr 0 0 15, .ptr 1 0 1]) eok Tryz.func8 rfl rfl (Nat.le_of_ble_eq_true rfl) ?_
    refine Ka eok rfl rfl rfl rfl rfl ?_ rfl
    refine Ka eok rfl rfl rfl rfl rfl ?_ rfl
    refine WlK_nil ?_
    refine Fq eok rfl rfl rfl rfl ?_ rfl
    refine WlF_defer rfl rfl rfl rfl rfl rfl ⟨_, Tryz.func29, rfl, rfl⟩ rfl ?_
    have nS := True.intro
    repeat' (first|((with_reducible refine sg ?_);first|with_reducible rfl|((with_reducible refine fitG ?_);first|kernel_rfl|rfl|(simp [fitT,fitF,nS];done))|with_reducible refine andT ?_ ?_|with_reducible exact Nat.beq_refl _|with_reducible exact fitsI_u8 _|((with_reducible refine decide_eq_true ?_);first|omega|(simp only [SZl,nS];omega))|decide|(simp [SZl,slc,allOneD,D.one,allOne,AV.one,nS];done)|(simp [SZl,nS];omega))|((with_reducible refine gWl ?_);first|(refine Wl_isMv rfl ?_;refine Xmv eok rfl rfl rfl rfl ?_)|refine Xq eok rfl rfl rfl rfl ?_ ?_|refine Xn [0,2,3,4,5,6,10,23,34] rfl ?_|refine Xpan rfl rfl rfl ?_|refine Xa eok rfl rfl rfl rfl rfl ?_ ?_|refine Xw eok rfl rfl rfl rfl ?_ ?_|refine Xs rfl rfl rfl ?_|(refine Xsplit rfl rfl (fun hc => ?_) (fun hc => ?_) <;> (fail_if_success (with_reducible first|exact tF hc|exact fT hc)) <;> (try simp only [HCl] at hc) <;> (try (exfalso;omega))))|((with_reducible refine gWd ?_);first|(refine Wd_isMv rfl ?_;refine Ymv eok rfl rfl (fun _ => rfl) rfl rfl ?_)|refine Yp eok rfl rfl (fun _ => rfl) rfl rfl ?_ ?_|refine Yq rfl rfl rfl rfl rfl ?_ ?_|refine Ys rfl rfl rfl rfl ?_|refine Ya eok rfl rfl rfl rfl rfl rfl ?_ ?_|refine Yw eok rfl rfl rfl rfl rfl ?_ ?_|refine Yn [0,2,3,4,5,6,10,23,34] [] mixed eok (by kernel_rfl) True.intro rfl ?_|(refine Ysplit rfl rfl (fun hc => ?_) (fun hc => ?_) <;> (fail_if_success (with_reducible first|exact tF hc|exact fT hc)) <;> (try simp only [HCl] at hc) <;> (try (exfalso;omega))))|refine W_seq ?_|refine W_regionS [5] rfl ?_|refine W_anyS [5] T.get rfl ?_|refine W_skip ?_|refine W_ret ?_|refine W_block ?_|refine W_exit ?_|refine W_cond_t rfl ?_|refine W_cond_f rfl ?_|(refine W_cond rfl (fun hc => ?_) (fun hc => ?_) <;> (try simp only [HCl] at hc) <;> (try (exfalso;omega))))
    refine W_ghost (TSub.e0c 0 9 (.is []) rfl rfl rfl rfl trivial) (by simp) ?_
    clear h h2
    by_cases hr : r' = []
    · subst hr
      have hR : (Msg.mk k' c' s' d' ky' sl' dn' pl' pr' l' ⟨ik', iv', ir', ig'⟩ co').right = false := by
        cases hq : (Msg.mk k' c' s' d' ky' sl' dn' pl' pr' l' ⟨ik', iv', ir', ig'⟩ co').right with
        | false => rfl
        | true => exact absurd ⟨rfl, hq⟩ h3
      rw [hR] at cR
      rcases hs with rfl | rfl | rfl | rfl | rfl | rfl | rfl
      all_goals (
        simp only [Int.reduceEq, if_true, if_false] at c3
        have nS := True.intro
        repeat' (first|((with_reducible refine sg ?_);first|with_reducible rfl|((with_reducible refine fitG ?_);first|kernel_rfl|rfl|(simp [fitT,fitF,nS];done))|with_reducible refine andT ?_ ?_|with_reducible exact Nat.beq_refl _|with_reducible exact fitsI_u8 _|((with_reducible refine decide_eq_true ?_);first|omega|(simp only [SZl,nS];omega))|decide|(simp [SZl,slc,allOneD,D.one,allOne,AV.one,nS];done)|(simp [SZl,nS];omega))|((with_reducible refine gWl ?_);first|(refine Wl_isMv rfl ?_;refine Xmv eok rfl rfl rfl rfl ?_)|refine Xq eok rfl rfl rfl rfl ?_ ?_|refine Xn [0,2,3,4,5,6,10,23,34] rfl ?_|refine Xpan rfl rfl rfl ?_|refine XF (cR) rfl rfl rfl rfl ?_|refine XD [2,0] (c1) rfl rfl rfl ⟨rfl,rfl,trivial⟩ rfl rfl rfl rfl ?_|refine XD [0,2] (c2) rfl rfl rfl ⟨rfl,rfl,trivial⟩ rfl rfl rfl rfl ?_|refine XD [4,3,0,2] (c3) rfl rfl rfl ⟨rfl,rfl,rfl,rfl,trivial⟩ rfl rfl rfl rfl ?_|refine Xa eok rfl rfl rfl rfl rfl ?_ ?_|refine Xw eok rfl rfl rfl rfl ?_ ?_|refine Xs rfl rfl rfl ?_|(refine Xsplit rfl rfl (fun hc => ?_) (fun hc => ?_) <;> (fail_if_success (with_reducible first|exact tF hc|exact fT hc)) <;> (try simp only [HCl] at hc) <;> (try (exfalso;omega))))|((with_reducible refine gWd ?_);first|(refine Wd_isMv rfl ?_;refine Ymv eok rfl rfl (fun _ => rfl) rfl rfl ?_)|refine Yp eok rfl rfl (fun _ => rfl) rfl rfl ?_ ?_|refine Yq rfl rfl rfl rfl rfl ?_ ?_|refine Ys rfl rfl rfl rfl ?_|refine YF (cR) rfl rfl rfl rfl rfl ?_|refine YD [2,0] (c1) rfl rfl rfl rfl ⟨rfl,rfl,trivial⟩ rfl rfl rfl rfl ?_|refine YD [0,2] (c2) rfl rfl rfl rfl ⟨rfl,rfl,trivial⟩ rfl rfl rfl rfl ?_|refine YD [4,3,0,2] (c3) rfl rfl rfl rfl ⟨rfl,rfl,rfl,rfl,trivial⟩ rfl rfl rfl rfl ?_|refine Ya eok rfl rfl rfl rfl rfl rfl ?_ ?_|refine Yw eok rfl rfl rfl rfl rfl ?_ ?_|refine Yn [0,2,3,4,5,6,10,23,34] [(1,0),(2,0)] mixed eok (by kernel_rfl) (by simp only [extraL];repeat' (first|exact True.intro|refine And.intro ?_ ?_|exact ⟨_,rfl,rfl⟩|rfl)) rfl ?_|(refine Ysplit rfl rfl (fun hc => ?_) (fun hc => ?_) <;> (fail_if_success (with_reducible first|exact tF hc|exact fT hc)) <;> (try simp only [HCl] at hc) <;> (try (exfalso;omega))))|refine W_seq ?_|refine W_region ?_|refine W_any T.get ?_|refine W_skip ?_|refine W_ret ?_|refine W_block ?_|refine W_exit ?_|refine W_cond_t rfl ?_|refine W_cond_f rfl ?_|(refine W_cond rfl (fun hc => ?_) (fun hc => ?_) <;> (try simp only [HCl] at hc) <;> (try (exfalso;omega))))
        refine ⟨_, Read1_pan _ _ _ _ _ _ _ _ _ _ _ _ _ _ _ _ _ 12, ?_⟩
        exact ⟨⟨[(2, .ptr 0 0 15), (3, .ptr 1 0 1)], rHp, Tryz.f8.ntmps⟩, (TSub.cut rfl (by repeat' (first | exact True.intro | refine And.intro (by (first | rfl | ((with_reducible_and_instances refine congrArg (fun z => some (AV.d (D.i _ z))) ?_); omega) | (refine congrArg (fun z => some (AV.d (D.i _ z))) (?_ : (_ : Int) = _); omega) | (refine congrArg some ?_; simp; done))) ?_)) (by repeat' (first | exact True.intro | refine And.intro (Or.inr rfl) ?_ | refine And.intro (Or.inl ⟨rfl, rfl⟩) ?_ | refine And.intro (Or.inr (by simp)) ?_)) (by first | rfl | (simp (decide := true) [heapOk, Blk.ok, AV.oks, AV.ok, hk]; done)) rfl), Nat.zero_le _, _, _, rfl, rfl, rfl, rfl⟩)
    · have hpos : 0 < r'.length := List.length_pos_iff.2 hr
      rcases hs with rfl | rfl | rfl | rfl | rfl | rfl | rfl
      all_goals (
        simp only [Int.reduceEq, if_true, if_false] at c3
        have nS := True.intro
        repeat' (first|((with_reducible refine sg ?_);first|with_reducible rfl|((with_reducible refine fitG ?_);first|kernel_rfl|rfl|(simp [fitT,fitF,nS];done))|with_reducible refine andT ?_ ?_|with_reducible exact Nat.beq_refl _|with_reducible exact fitsI_u8 _|((with_reducible refine decide_eq_true ?_);first|omega|(simp only [SZl,nS];omega))|decide|(simp [SZl,slc,allOneD,D.one,allOne,AV.one,nS];done)|(simp [SZl,nS];omega))|((with_reducible refine gWl ?_);first|(refine Wl_isMv rfl ?_;refine Xmv eok rfl rfl rfl rfl ?_)|refine Xq eok rfl rfl rfl rfl ?_ ?_|refine Xn [0,2,3,4,5,6,10,23,34] rfl ?_|refine Xpan rfl rfl rfl ?_|refine XF (cR) rfl rfl rfl rfl ?_|refine XD [2,0] (c1) rfl rfl rfl ⟨rfl,rfl,trivial⟩ rfl rfl rfl rfl ?_|refine XD [0,2] (c2) rfl rfl rfl ⟨rfl,rfl,trivial⟩ rfl rfl rfl rfl ?_|refine XD [4,3,0,2] (c3) rfl rfl rfl ⟨rfl,rfl,rfl,rfl,trivial⟩ rfl rfl rfl rfl ?_|refine Xa eok rfl rfl rfl rfl rfl ?_ ?_|refine Xw eok rfl rfl rfl rfl ?_ ?_|refine Xs rfl rfl rfl ?_|(refine Xsplit rfl rfl (fun hc => ?_) (fun hc => ?_) <;> (fail_if_success (with_reducible first|exact tF hc|exact fT hc)) <;> (try simp only [HCl] at hc) <;> (try (exfalso;omega))))|((with_reducible refine gWd ?_);first|(refine Wd_isMv rfl ?_;refine Ymv eok rfl rfl (fun _ => rfl) rfl rfl ?_)|refine Yp eok rfl rfl (fun _ => rfl) rfl rfl ?_ ?_|refine Yq rfl rfl rfl rfl rfl ?_ ?_|refine Ys rfl rfl rfl rfl ?_|refine YF (cR) rfl rfl rfl rfl rfl ?_|refine YD [2,0] (c1) rfl rfl rfl rfl ⟨rfl,rfl,trivial⟩ rfl rfl rfl rfl ?_|refine YD [0,2] (c2) rfl rfl rfl rfl ⟨rfl,rfl,trivial⟩ rfl rfl rfl rfl ?_|refine YD [4,3,0,2] (c3) rfl rfl rfl rfl ⟨rfl,rfl,rfl,rfl,trivial⟩ rfl rfl rfl rfl ?_|refine Ya eok rfl rfl rfl rfl rfl rfl ?_ ?_|refine Yw eok rfl rfl rfl rfl rfl ?_ ?_|refine Yn [0,2,3,4,5,6,10,23,34] [(1,0),(2,0)] mixed eok (by kernel_rfl) (by simp only [extraL];repeat' (first|exact True.intro|refine And.intro ?_ ?_|exact ⟨_,rfl,rfl⟩|rfl)) rfl ?_|(refine Ysplit rfl rfl (fun hc => ?_) (fun hc => ?_) <;> (fail_if_success (with_reducible first|exact tF hc|exact fT hc)) <;> (try simp only [HCl] at hc) <;> (try (exfalso;omega))))|refine W_seq ?_|refine W_region ?_|refine W_any T.get ?_|refine W_skip ?_|refine W_ret ?_|refine W_block ?_|refine W_exit ?_|refine W_cond_t rfl ?_|refine W_cond_f rfl ?_|(refine W_cond rfl (fun hc => ?_) (fun hc => ?_) <;> (try simp only [HCl] at hc) <;> (try (exfalso;omega))))
        refine ⟨_, Read1_pan _ _ _ _ _ _ _ _ _ _ _ _ _ _ _ _ _ 12, ?_⟩
        exact ⟨⟨[(2, .ptr 0 0 15), (3, .ptr 1 0 1)], rHp, Tryz.f8.ntmps⟩, (TSub.cut rfl (by repeat' (first | exact True.intro | refine And.intro (by (first | rfl | ((with_reducible_and_instances refine congrArg (fun z => some (AV.d (D.i _ z))) ?_); omega) | (refine congrArg (fun z => some (AV.d (D.i _ z))) (?_ : (_ : Int) = _); omega) | (refine congrArg some ?_; simp; done))) ?_)) (by repeat' (first | exact True.intro | refine And.intro (Or.inr rfl) ?_ | refine And.intro (Or.inl ⟨rfl, rfl⟩) ?_ | refine And.intro (Or.inr (by simp)) ?_)) (by first | rfl | (simp (decide := true) [heapOk, Blk.ok, AV.oks, AV.ok, hk]; done)) rfl), Nat.zero_le _, _, _, rfl, rfl, rfl, rfl⟩)
  · rw [pMore_other m r hs] at h2
    simp only [Option.some.injEq, Prod.mk.injEq] at h2
    obtain ⟨rfl, rfl⟩ := h2
    unfold special at hs
    obtain ⟨k, c, s, d, ky, sl, dn, pl, pr, l, ⟨ik, iv, ir, ig⟩, co⟩ := m
    unfold hH at c1
    unfold Msg.d Msg.cells at cR
    simp only [mC, mapR, zeroM, zeroI] at *
    have hs : k = 0 ∨ k = 1 ∨ k = 2 ∨ k = 3 ∨ k = 8 ∨ k = 9 := by omega
    refine FnT_of_D (g := 29) (xs := [.ptr 0 0 15, .ptr 1 0 1]) eok Tryz.func8 rfl rfl (Nat.le_of_ble_eq_true rfl) ?_
    refine Ka eok rfl rfl rfl rfl rfl ?_ rfl
    refine Ka eok rfl rfl rfl rfl rfl ?_ rfl
    refine WlK_nil ?_
    refine Fq eok rfl rfl rfl rfl ?_ rfl
    refine WlF_defer rfl rfl rfl rfl rfl rfl ⟨_, Tryz.func29, rfl, rfl⟩ rfl ?_
    have nS := True.intro
    repeat' (first|((with_reducible refine sg ?_);first|with_reducible rfl|((with_reducible refine fitG ?_);first|kernel_rfl|rfl|(simp [fitT,fitF,nS];done))|with_reducible refine andT ?_ ?_|with_reducible exact Nat.beq_refl _|with_reducible exact fitsI_u8 _|((with_reducible refine decide_eq_true ?_);first|omega|(simp only [SZl,nS];omega))|decide|(simp [SZl,slc,allOneD,D.one,allOne,AV.one,nS];done)|(simp [SZl,nS];omega))|((with_reducible refine gWl ?_);first|(refine Wl_isMv rfl ?_;refine Xmv eok rfl rfl rfl rfl ?_)|refine Xq eok rfl rfl rfl rfl ?_ ?_|refine Xn [0,2,3,4,5,6,10,23,34] rfl ?_|refine Xpan rfl rfl rfl ?_|refine Xa eok rfl rfl rfl rfl rfl ?_ ?_|refine Xw eok rfl rfl rfl rfl ?_ ?_|refine Xs rfl rfl rfl ?_|(refine Xsplit rfl rfl (fun hc => ?_) (fun hc => ?_) <;> (fail_if_success (with_reducible first|exact tF hc|exact fT hc)) <;> (try simp only [HCl] at hc) <;> (try (exfalso;omega))))|((with_reducible refine gWd ?_);first|(refine Wd_isMv rfl ?_;refine Ymv eok rfl rfl (fun _ => rfl) rfl rfl ?_)|refine Yp eok rfl rfl (fun _ => rfl) rfl rfl ?_ ?_|refine Yq rfl rfl rfl rfl rfl ?_ ?_|refine Ys rfl rfl rfl rfl ?_|refine Ya eok rfl rfl rfl rfl rfl rfl ?_ ?_|refine Yw eok rfl rfl rfl rfl rfl ?_ ?_|refine Yn [0,2,3,4,5,6,10,23,34] [] mixed eok (by kernel_rfl) True.intro rfl ?_|(refine Ysplit rfl rfl (fun hc => ?_) (fun hc => ?_) <;> (fail_if_success (with_reducible first|exact tF hc|exact fT hc)) <;> (try simp only [HCl] at hc) <;> (try (exfalso;omega))))|refine W_seq ?_|refine W_regionS [5] rfl ?_|refine W_anyS [5] T.get rfl ?_|refine W_skip ?_|refine W_ret ?_|refine W_block ?_|refine W_exit ?_|refine W_cond_t rfl ?_|refine W_cond_f rfl ?_|(refine W_cond rfl (fun hc => ?_) (fun hc => ?_) <;> (try simp only [HCl] at hc) <;> (try (exfalso;omega))))
    refine W_ghost (TSub.e0c 0 9 (.is []) rfl rfl rfl rfl trivial) (by simp) ?_
    clear h
    by_cases hr : r = []
    · subst hr
      have hR : (Msg.mk k c s d ky sl dn pl pr l ⟨ik, iv, ir, ig⟩ co).right = false := by
        cases hq : (Msg.mk k c s d ky sl dn pl pr l ⟨ik, iv, ir, ig⟩ co).right with
        | false => rfl
        | true => exact absurd ⟨rfl, hq⟩ h3
      rw [hR] at cR
      rcases hs with rfl | rfl | rfl | rfl | rfl | rfl
      all_goals (
        have nS := True.intro
        repeat' (first|((with_reducible refine sg ?_);first|with_reducible rfl|((with_reducible refine fitG ?_);first|kernel_rfl|rfl|(simp [fitT,fitF,nS];done))|with_reducible refine andT ?_ ?_|with_reducible exact Nat.beq_refl _|with_reducible exact fitsI_u8 _|((with_reducible refine decide_eq_true ?_);first|omega|(simp only [SZl,nS];omega))|decide|(simp [SZl,slc,allOneD,D.one,allOne,AV.one,nS];done)|(simp [SZl,nS];omega))|((with_reducible refine gWl ?_);first|(refine Wl_isMv rfl ?_;refine Xmv eok rfl rfl rfl rfl ?_)|refine Xq eok rfl rfl rfl rfl ?_ ?_|refine Xn [0,2,3,4,5,6,10,23,34] rfl ?_|refine Xpan rfl rfl rfl ?_|refine XF (cR) rfl rfl rfl rfl ?_|refine XD [2,0] (c1) rfl rfl rfl ⟨rfl,rfl,trivial⟩ rfl rfl rfl rfl ?_|refine XD [0,2] (c2) rfl rfl rfl ⟨rfl,rfl,trivial⟩ rfl rfl rfl rfl ?_|refine Xa eok rfl rfl rfl rfl rfl ?_ ?_|refine Xw eok rfl rfl rfl rfl ?_ ?_|refine Xs rfl rfl rfl ?_|(refine Xsplit rfl rfl (fun hc => ?_) (fun hc => ?_) <;> (fail_if_success (with_reducible first|exact tF hc|exact fT hc)) <;> (try simp only [HCl] at hc) <;> (try (exfalso;omega))))|((with_reducible refine gWd ?_);first|(refine Wd_isMv rfl ?_;refine Ymv eok rfl rfl (fun _ => rfl) rfl rfl ?_)|refine Yp eok rfl rfl (fun _ => rfl) rfl rfl ?_ ?_|refine Yq rfl rfl rfl rfl rfl ?_ ?_|refine Ys rfl rfl rfl rfl ?_|refine YF (cR) rfl rfl rfl rfl rfl ?_|refine YD [2,0] (c1) rfl rfl rfl rfl ⟨rfl,rfl,trivial⟩ rfl rfl rfl rfl ?_|refine YD [0,2] (c2) rfl rfl rfl rfl ⟨rfl,rfl,trivial⟩ rfl rfl rfl rfl ?_|refine Ya eok rfl rfl rfl rfl rfl rfl ?_ ?_|refine Yw eok rfl rfl rfl rfl rfl ?_ ?_|refine Yn [0,2,3,4,5,6,10,23,34] [(1,0),(2,0)] mixed eok (by kernel_rfl) (by simp only [extraL];repeat' (first|exact True.intro|refine And.intro ?_ ?_|exact ⟨_,rfl,rfl⟩|rfl)) rfl ?_|(refine Ysplit rfl rfl (fun hc => ?_) (fun hc => ?_) <;> (fail_if_success (with_reducible first|exact tF hc|exact fT hc)) <;> (try simp only [HCl] at hc) <;> (try (exfalso;omega))))|refine W_seq ?_|refine W_region ?_|refine W_any T.get ?_|refine W_skip ?_|refine W_ret ?_|refine W_block ?_|refine W_exit ?_|refine W_cond_t rfl ?_|refine W_cond_f rfl ?_|(refine W_cond rfl (fun hc => ?_) (fun hc => ?_) <;> (try simp only [HCl] at hc) <;> (try (exfalso;omega))))
        refine ⟨_, Read1_pan _ _ _ _ _ _ _ _ _ _ _ _ _ _ _ _ _ 12, ?_⟩
        exact ⟨⟨[(2, .ptr 0 0 15), (3, .ptr 1 0 1)], rHp, Tryz.f8.ntmps⟩, (TSub.cut rfl (by repeat' (first | exact True.intro | refine And.intro (by (first | rfl | ((with_reducible_and_instances refine congrArg (fun z => some (AV.d (D.i _ z))) ?_); omega) | (refine congrArg (fun z => some (AV.d (D.i _ z))) (?_ : (_ : Int) = _); omega) | (refine congrArg some ?_; simp; done))) ?_)) (by repeat' (first | exact True.intro | refine And.intro (Or.inr rfl) ?_ | refine And.intro (Or.inl ⟨rfl, rfl⟩) ?_ | refine And.intro (Or.inr (by simp)) ?_)) (by first | rfl | (simp (decide := true) [heapOk, Blk.ok, AV.oks, AV.ok, hk]; done)) rfl), Nat.zero_le _, _, _, rfl, rfl, rfl, rfl⟩)
    · have hpos : 0 < r.length := List.length_pos_iff.2 hr
      rcases hs with rfl | rfl | rfl | rfl | rfl | rfl
      all_goals (
        have nS := True.intro
        repeat' (first|((with_reducible refine sg ?_);first|with_reducible rfl|((with_reducible refine fitG ?_);first|kernel_rfl|rfl|(simp [fitT,fitF,nS];done))|with_reducible refine andT ?_ ?_|with_reducible exact Nat.beq_refl _|with_reducible exact fitsI_u8 _|((with_reducible refine decide_eq_true ?_);first|omega|(simp only [SZl,nS];omega))|decide|(simp [SZl,slc,allOneD,D.one,allOne,AV.one,nS];done)|(simp [SZl,nS];omega))|((with_reducible refine gWl ?_);first|(refine Wl_isMv rfl ?_;refine Xmv eok rfl rfl rfl rfl ?_)|refine Xq eok rfl rfl rfl rfl ?_ ?_|refine Xn [0,2,3,4,5,6,10,23,34] rfl ?_|refine Xpan rfl rfl rfl ?_|refine XF (cR) rfl rfl rfl rfl ?_|refine XD [2,0] (c1) rfl rfl rfl ⟨rfl,rfl,trivial⟩ rfl rfl rfl rfl ?_|refine XD [0,2] (c2) rfl rfl rfl ⟨rfl,rfl,trivial⟩ rfl rfl rfl rfl ?_|refine Xa eok rfl rfl rfl rfl rfl ?_ ?_|refine Xw eok rfl rfl rfl rfl ?_ ?_|refine Xs rfl rfl rfl ?_|(refine Xsplit rfl rfl (fun hc => ?_) (fun hc => ?_) <;> (fail_if_success (with_reducible first|exact tF hc|exact fT hc)) <;> (try simp only [HCl] at hc) <;> (try (exfalso;omega))))|((with_reducible refine gWd ?_);first|(refine Wd_isMv rfl ?_;refine Ymv eok rfl rfl (fun _ => rfl) rfl rfl ?_)|refine Yp eok rfl rfl (fun _ => rfl) rfl rfl ?_ ?_|refine Yq rfl rfl rfl rfl rfl ?_ ?_|refine Ys rfl rfl rfl rfl ?_|refine YF (cR) rfl rfl rfl rfl rfl ?_|refine YD [2,0] (c1) rfl rfl rfl rfl ⟨rfl,rfl,trivial⟩ rfl rfl rfl rfl ?_|refine YD [0,2] (c2) rfl rfl rfl rfl ⟨rfl,rfl,trivial⟩ rfl rfl rfl rfl ?_|refine Ya eok rfl rfl rfl rfl rfl rfl ?_ ?_|refine Yw eok rfl rfl rfl rfl rfl ?_ ?_|refine Yn [0,2,3,4,5,6,10,23,34] [(1,0),(2,0)] mixed eok (by kernel_rfl) (by simp only [extraL];repeat' (first|exact True.intro|refine And.intro ?_ ?_|exact ⟨_,rfl,rfl⟩|rfl)) rfl ?_|(refine Ysplit rfl rfl (fun hc => ?_) (fun hc => ?_) <;> (fail_if_success (with_reducible first|exact tF hc|exact fT hc)) <;> (try simp only [HCl] at hc) <;> (try (exfalso;omega))))|refine W_seq ?_|refine W_region ?_|refine W_any T.get ?_|refine W_skip ?_|refine W_ret ?_|refine W_block ?_|refine W_exit ?_|refine W_cond_t rfl ?_|refine W_cond_f rfl ?_|(refine W_cond rfl (fun hc => ?_) (fun hc => ?_) <;> (try simp only [HCl] at hc) <;> (try (exfalso;omega))))
        refine ⟨_, Read1_pan _ _ _ _ _ _ _ _ _ _ _ _ _ _ _ _ _ 12, ?_⟩
        exact ⟨⟨[(2, .ptr 0 0 15), (3, .ptr 1 0 1)], rHp, Tryz.f8.ntmps⟩, (TSub.cut rfl (by repeat' (first | exact True.intro | refine And.intro (by (first | rfl | ((with_reducible_and_instances refine congrArg (fun z => some (AV.d (D.i _ z))) ?_); omega) | (refine congrArg (fun z => some (AV.d (D.i _ z))) (?_ : (_ : Int) = _); omega) | (refine congrArg some ?_; simp; done))) ?_)) (by repeat' (first | exact True.intro | refine And.intro (Or.inr rfl) ?_ | refine And.intro (Or.inl ⟨rfl, rfl⟩) ?_ | refine And.intro (Or.inr (by simp)) ?_)) (by first | rfl | (simp (decide := true) [heapOk, Blk.ok, AV.oks, AV.ok, hk]; done)) rfl), Nat.zero_le _, _, _, rfl, rfl, rfl, rfl⟩)
end Wi
end Go.Proofs.YtbpemnmpcljbpaaGreat
