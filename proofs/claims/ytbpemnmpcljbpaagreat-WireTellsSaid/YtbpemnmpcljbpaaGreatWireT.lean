/- Written by a program (pre.py) from the source of the same name. -/
/- Payloads: what takes pairs, and what each message has. -/
import Derived.Test.YtbpemnmpcljbpaaGreatWireS
import Derived.Test.YtbpemnmpcljbpaaGreatFwE
set_option linter.unusedSimpArgs false
set_option linter.unusedVariables false
set_option linter.unnecessarySimpa false
namespace Go.Proofs.YtbpemnmpcljbpaaGreat
namespace Wi
open Go.Gar
set_option maxRecDepth 4000

theorem pair_ok (b : List UInt8) (hb : b.length < 70368744177664) (x : Item) (r : List UInt8) (h : pPair b = some (x, r)) : FnD Tryz.prog 66 [.ptr 0 0 1] (rH b) (.d x.d) (rH r) := by
  unfold pPair at h
  split at h
  · cases h
  rename_i k b1 h1
  split at h
  · cases h
  rename_i v b2 h2
  split at h
  · cases h
  rename_i n b3 h3
  split at h
  · cases h
  rename_i g b4 h4
  simp only [Option.some.injEq, Prod.mk.injEq] at h
  obtain ⟨rfl, rfl⟩ := h
  have l1 := pText_len h1
  have l2 := pNum_len h2
  have l3 := pNum_len h3
  have c1 := text_ok b hb k b1 h1
  have c2 := number_ok b1 (by omega) v b2 h2
  have c3 := number_ok b2 (by omega) n b3 h3
  have c4 := flag_ok b3 (by omega) g b4 h4
  refine FnD.drop (K := [.c [.d (.by b4)], .c [.d (.s k), .d (.i .i64 v), .d (.i .i64 n), .d (.b g)]]) _ ?_ ⟨.inr rfl, trivial⟩ rfl rfl rfl
  refine FnD_of_W eok Tryz.func66 rfl rfl (Nat.le_of_ble_eq_true rfl) ?_
  unfold rH at *
  have nS := True.intro
  repeat' (first|((with_reducible refine sg ?_);first|with_reducible rfl|((with_reducible refine fitG ?_);first|kernel_rfl|rfl|(simp [fitT,fitF,nS];done))|with_reducible refine andT ?_ ?_|with_reducible exact Nat.beq_refl _|with_reducible exact fitsI_u8 _|((with_reducible refine decide_eq_true ?_);first|omega|(simp only [SZl,nS];omega))|decide|(simp [SZl,slc,allOneD,D.one,allOne,AV.one,nS];done)|(simp [SZl,nS];omega))|((with_reducible refine gWl ?_);first|(refine Wl_isMv rfl ?_;refine Xmv eok rfl rfl rfl rfl ?_)|refine Xq eok rfl rfl rfl rfl ?_ ?_|refine Xn [0,2] rfl ?_|refine XD [0] (c1) rfl rfl rfl ⟨rfl,trivial⟩ rfl rfl rfl rfl ?_|refine XD [0] (c2) rfl rfl rfl ⟨rfl,trivial⟩ rfl rfl rfl rfl ?_|refine XD [0] (c3) rfl rfl rfl ⟨rfl,trivial⟩ rfl rfl rfl rfl ?_|refine XD [0] (c4) rfl rfl rfl ⟨rfl,trivial⟩ rfl rfl rfl rfl ?_|refine Xa eok rfl rfl rfl rfl rfl ?_ ?_|refine Xw eok rfl rfl rfl rfl ?_ ?_)|refine W_seq ?_|refine W_region ?_|refine W_skip ?_|refine W_ret ?_|refine W_block ?_|refine W_exit ?_|refine W_cond_t rfl ?_|refine W_cond_f rfl ?_|(refine W_cond rfl (fun hc => ?_) (fun hc => ?_) <;> (try simp only [HCl] at hc) <;> (try (exfalso;omega))))
  exact ⟨_, TSub.refl _, Nat.le_add_right _ _, _, _, rfl, rfl, rfl, rfl⟩
theorem pair_no (b : List UInt8) (hb : b.length < 70368744177664) (h : pPair b = none) : FnX Tryz.prog 66 [.ptr 0 0 1] (rH b) (pF 12) [.gone] := by
  refine FnX_of_W eok Tryz.func66 rfl rfl (Nat.le_of_ble_eq_true rfl) ?_
  cases h1 : pText b with
  | none =>
    have c1 := text_no b hb h1
    unfold rH at *
    have nS := True.intro
    repeat' (first|((with_reducible refine sg ?_);first|with_reducible rfl|((with_reducible refine fitG ?_);first|kernel_rfl|rfl|(simp [fitT,fitF,nS];done))|with_reducible refine andT ?_ ?_|with_reducible exact Nat.beq_refl _|with_reducible exact fitsI_u8 _|((with_reducible refine decide_eq_true ?_);first|omega|(simp only [SZl,nS];omega))|decide|(simp [SZl,slc,allOneD,D.one,allOne,AV.one,nS];done)|(simp [SZl,nS];omega))|((with_reducible refine gWl ?_);first|(refine Wl_isMv rfl ?_;refine Xmv eok rfl rfl rfl rfl ?_)|refine Xq eok rfl rfl rfl rfl ?_ ?_|refine Xn [0,2] rfl ?_|refine XX [0] (c1) rfl rfl ⟨rfl,trivial⟩ rfl rfl rfl ?_|refine Xa eok rfl rfl rfl rfl rfl ?_ ?_|refine Xw eok rfl rfl rfl rfl ?_ ?_)|refine W_seq ?_|refine W_region ?_|refine W_skip ?_|refine W_ret ?_|refine W_block ?_|refine W_exit ?_|refine W_cond_t rfl ?_|refine W_cond_f rfl ?_|(refine W_cond rfl (fun hc => ?_) (fun hc => ?_) <;> (try simp only [HCl] at hc) <;> (try (exfalso;omega))))
    exact ⟨rfl, ⟨[], [.gone], Tryz.f66.ntmps⟩, (TSub.cut rfl (by repeat' (first | exact True.intro | refine And.intro (by (first | rfl | ((with_reducible_and_instances refine congrArg (fun z => some (AV.d (D.i _ z))) ?_); omega) | (refine congrArg (fun z => some (AV.d (D.i _ z))) (?_ : (_ : Int) = _); omega) | (refine congrArg some ?_; simp; done))) ?_)) (by repeat' (first | exact True.intro | refine And.intro (Or.inr rfl) ?_ | refine And.intro (Or.inl ⟨rfl, rfl⟩) ?_ | refine And.intro (Or.inr (by simp)) ?_)) (by first | rfl | (simp (decide := true) [heapOk, Blk.ok, AV.oks, AV.ok, hk]; done)) rfl), Nat.le_refl _, rfl⟩
  | some p =>
  obtain ⟨k, b1⟩ := p
  have l1 := pText_len h1
  have c1 := text_ok b hb k b1 h1
  cases h2 : pNum b1 with
  | none =>
    have c2 := number_no b1 (by omega) h2
    unfold rH at *
    have nS := True.intro
    repeat' (first|((with_reducible refine sg ?_);first|with_reducible rfl|((with_reducible refine fitG ?_);first|kernel_rfl|rfl|(simp [fitT,fitF,nS];done))|with_reducible refine andT ?_ ?_|with_reducible exact Nat.beq_refl _|with_reducible exact fitsI_u8 _|((with_reducible refine decide_eq_true ?_);first|omega|(simp only [SZl,nS];omega))|decide|(simp [SZl,slc,allOneD,D.one,allOne,AV.one,nS];done)|(simp [SZl,nS];omega))|((with_reducible refine gWl ?_);first|(refine Wl_isMv rfl ?_;refine Xmv eok rfl rfl rfl rfl ?_)|refine Xq eok rfl rfl rfl rfl ?_ ?_|refine Xn [0,2] rfl ?_|refine XX [0] (c2) rfl rfl ⟨rfl,trivial⟩ rfl rfl rfl ?_|refine XD [0] (c1) rfl rfl rfl ⟨rfl,trivial⟩ rfl rfl rfl rfl ?_|refine Xa eok rfl rfl rfl rfl rfl ?_ ?_|refine Xw eok rfl rfl rfl rfl ?_ ?_)|refine W_seq ?_|refine W_region ?_|refine W_skip ?_|refine W_ret ?_|refine W_block ?_|refine W_exit ?_|refine W_cond_t rfl ?_|refine W_cond_f rfl ?_|(refine W_cond rfl (fun hc => ?_) (fun hc => ?_) <;> (try simp only [HCl] at hc) <;> (try (exfalso;omega))))
    exact ⟨rfl, ⟨[], [.gone], Tryz.f66.ntmps⟩, (TSub.cut rfl (by repeat' (first | exact True.intro | refine And.intro (by (first | rfl | ((with_reducible_and_instances refine congrArg (fun z => some (AV.d (D.i _ z))) ?_); omega) | (refine congrArg (fun z => some (AV.d (D.i _ z))) (?_ : (_ : Int) = _); omega) | (refine congrArg some ?_; simp; done))) ?_)) (by repeat' (first | exact True.intro | refine And.intro (Or.inr rfl) ?_ | refine And.intro (Or.inl ⟨rfl, rfl⟩) ?_ | refine And.intro (Or.inr (by simp)) ?_)) (by first | rfl | (simp (decide := true) [heapOk, Blk.ok, AV.oks, AV.ok, hk]; done)) rfl), Nat.le_refl _, rfl⟩
  | some p =>
  obtain ⟨v, b2⟩ := p
  have l2 := pNum_len h2
  have c2 := number_ok b1 (by omega) v b2 h2
  cases h3 : pNum b2 with
  | none =>
    have c3 := number_no b2 (by omega) h3
    unfold rH at *
    have nS := True.intro
    repeat' (first|((with_reducible refine sg ?_);first|with_reducible rfl|((with_reducible refine fitG ?_);first|kernel_rfl|rfl|(simp [fitT,fitF,nS];done))|with_reducible refine andT ?_ ?_|with_reducible exact Nat.beq_refl _|with_reducible exact fitsI_u8 _|((with_reducible refine decide_eq_true ?_);first|omega|(simp only [SZl,nS];omega))|decide|(simp [SZl,slc,allOneD,D.one,allOne,AV.one,nS];done)|(simp [SZl,nS];omega))|((with_reducible refine gWl ?_);first|(refine Wl_isMv rfl ?_;refine Xmv eok rfl rfl rfl rfl ?_)|refine Xq eok rfl rfl rfl rfl ?_ ?_|refine Xn [0,2] rfl ?_|refine XX [0] (c3) rfl rfl ⟨rfl,trivial⟩ rfl rfl rfl ?_|refine XD [0] (c1) rfl rfl rfl ⟨rfl,trivial⟩ rfl rfl rfl rfl ?_|refine XD [0] (c2) rfl rfl rfl ⟨rfl,trivial⟩ rfl rfl rfl rfl ?_|refine Xa eok rfl rfl rfl rfl rfl ?_ ?_|refine Xw eok rfl rfl rfl rfl ?_ ?_)|refine W_seq ?_|refine W_region ?_|refine W_skip ?_|refine W_ret ?_|refine W_block ?_|refine W_exit ?_|refine W_cond_t rfl ?_|refine W_cond_f rfl ?_|(refine W_cond rfl (fun hc => ?_) (fun hc => ?_) <;> (try simp only [HCl] at hc) <;> (try (exfalso;omega))))
    exact ⟨rfl, ⟨[], [.gone], Tryz.f66.ntmps⟩, (TSub.cut rfl (by repeat' (first | exact True.intro | refine And.intro (by (first | rfl | ((with_reducible_and_instances refine congrArg (fun z => some (AV.d (D.i _ z))) ?_); omega) | (refine congrArg (fun z => some (AV.d (D.i _ z))) (?_ : (_ : Int) = _); omega) | (refine congrArg some ?_; simp; done))) ?_)) (by repeat' (first | exact True.intro | refine And.intro (Or.inr rfl) ?_ | refine And.intro (Or.inl ⟨rfl, rfl⟩) ?_ | refine And.intro (Or.inr (by simp)) ?_)) (by first | rfl | (simp (decide := true) [heapOk, Blk.ok, AV.oks, AV.ok, hk]; done)) rfl), Nat.le_refl _, rfl⟩
  | some p =>
  obtain ⟨n, b3⟩ := p
  have l3 := pNum_len h3
  have c3 := number_ok b2 (by omega) n b3 h3
  cases h4 : pFlag b3 with
  | none =>
    have c4 := flag_no b3 (by omega) h4
    unfold rH at *
    have nS := True.intro
    repeat' (first|((with_reducible refine sg ?_);first|with_reducible rfl|((with_reducible refine fitG ?_);first|kernel_rfl|rfl|(simp [fitT,fitF,nS];done))|with_reducible refine andT ?_ ?_|with_reducible exact Nat.beq_refl _|with_reducible exact fitsI_u8 _|((with_reducible refine decide_eq_true ?_);first|omega|(simp only [SZl,nS];omega))|decide|(simp [SZl,slc,allOneD,D.one,allOne,AV.one,nS];done)|(simp [SZl,nS];omega))|((with_reducible refine gWl ?_);first|(refine Wl_isMv rfl ?_;refine Xmv eok rfl rfl rfl rfl ?_)|refine Xq eok rfl rfl rfl rfl ?_ ?_|refine Xn [0,2] rfl ?_|refine XX [0] (c4) rfl rfl ⟨rfl,trivial⟩ rfl rfl rfl ?_|refine XD [0] (c1) rfl rfl rfl ⟨rfl,trivial⟩ rfl rfl rfl rfl ?_|refine XD [0] (c2) rfl rfl rfl ⟨rfl,trivial⟩ rfl rfl rfl rfl ?_|refine XD [0] (c3) rfl rfl rfl ⟨rfl,trivial⟩ rfl rfl rfl rfl ?_|refine Xa eok rfl rfl rfl rfl rfl ?_ ?_|refine Xw eok rfl rfl rfl rfl ?_ ?_)|refine W_seq ?_|refine W_region ?_|refine W_skip ?_|refine W_ret ?_|refine W_block ?_|refine W_exit ?_|refine W_cond_t rfl ?_|refine W_cond_f rfl ?_|(refine W_cond rfl (fun hc => ?_) (fun hc => ?_) <;> (try simp only [HCl] at hc) <;> (try (exfalso;omega))))
    exact ⟨rfl, ⟨[], [.gone], Tryz.f66.ntmps⟩, (TSub.cut rfl (by repeat' (first | exact True.intro | refine And.intro (by (first | rfl | ((with_reducible_and_instances refine congrArg (fun z => some (AV.d (D.i _ z))) ?_); omega) | (refine congrArg (fun z => some (AV.d (D.i _ z))) (?_ : (_ : Int) = _); omega) | (refine congrArg some ?_; simp; done))) ?_)) (by repeat' (first | exact True.intro | refine And.intro (Or.inr rfl) ?_ | refine And.intro (Or.inl ⟨rfl, rfl⟩) ?_ | refine And.intro (Or.inr (by simp)) ?_)) (by first | rfl | (simp (decide := true) [heapOk, Blk.ok, AV.oks, AV.ok, hk]; done)) rfl), Nat.le_refl _, rfl⟩
  | some p =>
    unfold pPair at h
    simp only [h1, h2, h3, h4] at h
    cases h
theorem pPair_len {b r : List UInt8} {x : Item} (h : pPair b = some (x, r)) : r.length ≤ b.length := by
  unfold pPair at h
  split at h
  · cases h
  rename_i k b1 h1
  split at h
  · cases h
  rename_i v b2 h2
  split at h
  · cases h
  rename_i n b3 h3
  split at h
  · cases h
  rename_i g b4 h4
  simp only [Option.some.injEq, Prod.mk.injEq] at h
  obtain ⟨rfl, rfl⟩ := h
  have l1 := pText_len h1
  have l2 := pNum_len h2
  have l3 := pNum_len h3
  have l4 := pFlag_len h4
  omega

/-- What each message has. -/
def pHead (m : Msg) (b : List UInt8) : Option (Msg × List UInt8) := match pNum b with
  | none => none
  | some (k, b1) => if k ≥ 13 then none else match pNum b1 with
    | none => none
    | some (c, b2) => match pNum b2 with
      | none => none
      | some (s, b3) => match pNum b3 with
        | none => none
        | some (d, b4) => some ({ m with kind := k, call := c, src := s, dst := d }, b4)
def hH (m : Msg) (b : List UInt8) : List Blk := [.c [.d (.by b)], .c (mC m)]
def uC : List AV := List.replicate 15 .u
theorem head_ok (m : Msg) (b : List UInt8) (hb : b.length < 70368744177664) (m' : Msg) (r : List UInt8) (h : pHead m b = some (m', r)) : FnD Tryz.prog 30 [.ptr 0 0 1, .ptr 1 0 15] (hH m b) (.tup []) (hH m' r) := by
  unfold pHead at h
  split at h
  · cases h
  rename_i k b1 h1
  split at h
  · cases h
  rename_i hk
  split at h
  · cases h
  rename_i c b2 h2
  split at h
  · cases h
  rename_i s b3 h3
  split at h
  · cases h
  rename_i d b4 h4
  simp only [Option.some.injEq, Prod.mk.injEq] at h
  obtain ⟨rfl, rfl⟩ := h
  have l1 := pNum_len h1
  have l2 := pNum_len h2
  have l3 := pNum_len h3
  have c1 := number_ok b hb k b1 h1
  have c2 := number_ok b1 (by omega) c b2 h2
  have c3 := number_ok b2 (by omega) s b3 h3
  have c4 := number_ok b3 (by omega) d b4 h4
  have e : (k : Int) % 256 = k := by omega
  refine FnD_of_W eok Tryz.func30 rfl rfl (Nat.le_of_ble_eq_true rfl) ?_
  unfold rH hH mC at *
  have nS := e
  repeat' (first|((with_reducible refine sg ?_);first|with_reducible rfl|((with_reducible refine fitG ?_);first|kernel_rfl|rfl|(simp [fitT,fitF,nS];done))|with_reducible refine andT ?_ ?_|with_reducible exact Nat.beq_refl _|with_reducible exact fitsI_u8 _|((with_reducible refine decide_eq_true ?_);first|omega|(simp only [SZl,nS];omega))|decide|(simp [SZl,slc,allOneD,D.one,allOne,AV.one,nS];done)|(simp [SZl,nS];omega))|((with_reducible refine gWl ?_);first|(refine Wl_isMv rfl ?_;refine Xmv eok rfl rfl rfl rfl ?_)|refine Xq eok rfl rfl rfl rfl ?_ ?_|refine Xn [0,1,4,8] rfl ?_|refine XD [0] (c1) rfl rfl rfl ⟨rfl,trivial⟩ rfl rfl rfl rfl ?_|refine XD [0] (c2) rfl rfl rfl ⟨rfl,trivial⟩ rfl rfl rfl rfl ?_|refine XD [0] (c3) rfl rfl rfl ⟨rfl,trivial⟩ rfl rfl rfl rfl ?_|refine XD [0] (c4) rfl rfl rfl ⟨rfl,trivial⟩ rfl rfl rfl rfl ?_|refine Xw eok rfl rfl rfl rfl ?_ ?_)|refine W_seq ?_|refine W_region ?_|refine W_skip ?_|refine W_ret ?_|refine W_block ?_|refine W_exit ?_|refine W_cond_t rfl ?_|refine W_cond_f rfl ?_|(refine W_cond rfl (fun hc => ?_) (fun hc => ?_) <;> (try simp only [HCl] at hc) <;> (try (exfalso;omega))))
  exact ⟨_, TSub.refl _, Nat.le_refl _, _, _, rfl, rfl, rfl, rfl⟩
theorem us_end {E : Nat → Option TyI} {env : List (Nat × AV)} {b : List UInt8} {cs : List AV} {n : Nat} (hcs : cs.length = 15) : TSub ⟨env, [.c [.d (.by b)], .c cs], n⟩ ⟨[], [.gone, .c uC], n⟩ :=
  (TSub.us (S := ⟨env, [.c [.d (.by b)], .c cs], n⟩) 1 15 rfl hcs.symm).trans' (TSub.cut (S' := ⟨[], [.gone, .c uC], n⟩) rfl trivial ⟨.inl ⟨rfl, rfl⟩, .inr rfl, trivial⟩ rfl rfl) (Nat.le_refl _)
theorem head_no (m : Msg) (b : List UInt8) (hb : b.length < 70368744177664) (h : pHead m b = none) : FnX Tryz.prog 30 [.ptr 0 0 1, .ptr 1 0 15] (hH m b) (pF 12) [.gone, .c uC] := by
  refine FnX_of_W eok Tryz.func30 rfl rfl (Nat.le_of_ble_eq_true rfl) ?_
  unfold pHead at h
  cases h1 : pNum b with
  | none =>
    have c1 := number_no b hb h1
    unfold hH rH mC at *
    have nS := True.intro
    repeat' (first|((with_reducible refine sg ?_);first|with_reducible rfl|((with_reducible refine fitG ?_);first|kernel_rfl|rfl|(simp [fitT,fitF,nS];done))|with_reducible refine andT ?_ ?_|with_reducible exact Nat.beq_refl _|with_reducible exact fitsI_u8 _|((with_reducible refine decide_eq_true ?_);first|omega|(simp only [SZl,nS];omega))|decide|(simp [SZl,slc,allOneD,D.one,allOne,AV.one,nS];done)|(simp [SZl,nS];omega))|((with_reducible refine gWl ?_);first|(refine Wl_isMv rfl ?_;refine Xmv eok rfl rfl rfl rfl ?_)|refine Xq eok rfl rfl rfl rfl ?_ ?_|refine Xn [0,1,4,8] rfl ?_|refine XX [0] (c1) rfl rfl ⟨rfl,trivial⟩ rfl rfl rfl ?_|refine Xw eok rfl rfl rfl rfl ?_ ?_)|refine W_seq ?_|refine W_region ?_|refine W_skip ?_|refine W_ret ?_|refine W_block ?_|refine W_exit ?_|refine W_cond_t rfl ?_|refine W_cond_f rfl ?_|(refine W_cond rfl (fun hc => ?_) (fun hc => ?_) <;> (try simp only [HCl] at hc) <;> (try (exfalso;omega))))
    exact ⟨rfl, _, (TSub.us (S := ⟨_, [.gone, .c _], _⟩) 1 15 rfl rfl), Nat.le_refl _, rfl⟩
  | some p =>
  obtain ⟨k, b1⟩ := p
  rw [h1] at h
  simp only at h
  have l1 := pNum_len h1
  have c1 := number_ok b hb k b1 h1
  split at h
  · rename_i hk
    unfold hH rH mC at *
    have nS := True.intro
    repeat' (first|((with_reducible refine sg ?_);first|with_reducible rfl|((with_reducible refine fitG ?_);first|kernel_rfl|rfl|(simp [fitT,fitF,nS];done))|with_reducible refine andT ?_ ?_|with_reducible exact Nat.beq_refl _|with_reducible exact fitsI_u8 _|((with_reducible refine decide_eq_true ?_);first|omega|(simp only [SZl,nS];omega))|decide|(simp [SZl,slc,allOneD,D.one,allOne,AV.one,nS];done)|(simp [SZl,nS];omega))|((with_reducible refine gWl ?_);first|(refine Wl_isMv rfl ?_;refine Xmv eok rfl rfl rfl rfl ?_)|refine Xq eok rfl rfl rfl rfl ?_ ?_|refine Xn [0,1,4,8] rfl ?_|refine Xpan rfl rfl rfl ?_|refine XD [0] (c1) rfl rfl rfl ⟨rfl,trivial⟩ rfl rfl rfl rfl ?_|refine Xw eok rfl rfl rfl rfl ?_ ?_)|refine W_seq ?_|refine W_region ?_|refine W_skip ?_|refine W_ret ?_|refine W_block ?_|refine W_exit ?_|refine W_cond_t rfl ?_|refine W_cond_f rfl ?_|(refine W_cond rfl (fun hc => ?_) (fun hc => ?_) <;> (try simp only [HCl] at hc) <;> (try (exfalso;omega))))
    exact ⟨rfl, _, us_end (E := T.get) rfl, Nat.le_refl _, rfl⟩
  rename_i hk
  have e : (k : Int) % 256 = k := by omega
  cases h2 : pNum b1 with
  | none =>
    have c2 := number_no b1 (by omega) h2
    unfold hH rH mC at *
    have nS := e
    repeat' (first|((with_reducible refine sg ?_);first|with_reducible rfl|((with_reducible refine fitG ?_);first|kernel_rfl|rfl|(simp [fitT,fitF,nS];done))|with_reducible refine andT ?_ ?_|with_reducible exact Nat.beq_refl _|with_reducible exact fitsI_u8 _|((with_reducible refine decide_eq_true ?_);first|omega|(simp only [SZl,nS];omega))|decide|(simp [SZl,slc,allOneD,D.one,allOne,AV.one,nS];done)|(simp [SZl,nS];omega))|((with_reducible refine gWl ?_);first|(refine Wl_isMv rfl ?_;refine Xmv eok rfl rfl rfl rfl ?_)|refine Xq eok rfl rfl rfl rfl ?_ ?_|refine Xn [0,1,4,8] rfl ?_|refine XX [0] (c2) rfl rfl ⟨rfl,trivial⟩ rfl rfl rfl ?_|refine XD [0] (c1) rfl rfl rfl ⟨rfl,trivial⟩ rfl rfl rfl rfl ?_|refine Xw eok rfl rfl rfl rfl ?_ ?_)|refine W_seq ?_|refine W_region ?_|refine W_skip ?_|refine W_ret ?_|refine W_block ?_|refine W_exit ?_|refine W_cond_t rfl ?_|refine W_cond_f rfl ?_|(refine W_cond rfl (fun hc => ?_) (fun hc => ?_) <;> (try simp only [HCl] at hc) <;> (try (exfalso;omega))))
    exact ⟨rfl, _, (TSub.us (S := ⟨_, [.gone, .c _], _⟩) 1 15 rfl rfl), Nat.le_refl _, rfl⟩
  | some p =>
  obtain ⟨c, b2⟩ := p
  rw [h2] at h
  simp only at h
  have l2 := pNum_len h2
  have c2 := number_ok b1 (by omega) c b2 h2
  cases h3 : pNum b2 with
  | none =>
    have c3 := number_no b2 (by omega) h3
    unfold hH rH mC at *
    have nS := e
    repeat' (first|((with_reducible refine sg ?_);first|with_reducible rfl|((with_reducible refine fitG ?_);first|kernel_rfl|rfl|(simp [fitT,fitF,nS];done))|with_reducible refine andT ?_ ?_|with_reducible exact Nat.beq_refl _|with_reducible exact fitsI_u8 _|((with_reducible refine decide_eq_true ?_);first|omega|(simp only [SZl,nS];omega))|decide|(simp [SZl,slc,allOneD,D.one,allOne,AV.one,nS];done)|(simp [SZl,nS];omega))|((with_reducible refine gWl ?_);first|(refine Wl_isMv rfl ?_;refine Xmv eok rfl rfl rfl rfl ?_)|refine Xq eok rfl rfl rfl rfl ?_ ?_|refine Xn [0,1,4,8] rfl ?_|refine XX [0] (c3) rfl rfl ⟨rfl,trivial⟩ rfl rfl rfl ?_|refine XD [0] (c1) rfl rfl rfl ⟨rfl,trivial⟩ rfl rfl rfl rfl ?_|refine XD [0] (c2) rfl rfl rfl ⟨rfl,trivial⟩ rfl rfl rfl rfl ?_|refine Xw eok rfl rfl rfl rfl ?_ ?_)|refine W_seq ?_|refine W_region ?_|refine W_skip ?_|refine W_ret ?_|refine W_block ?_|refine W_exit ?_|refine W_cond_t rfl ?_|refine W_cond_f rfl ?_|(refine W_cond rfl (fun hc => ?_) (fun hc => ?_) <;> (try simp only [HCl] at hc) <;> (try (exfalso;omega))))
    exact ⟨rfl, _, (TSub.us (S := ⟨_, [.gone, .c _], _⟩) 1 15 rfl rfl), Nat.le_refl _, rfl⟩
  | some p =>
  obtain ⟨s, b3⟩ := p
  rw [h3] at h
  simp only at h
  have l3 := pNum_len h3
  have c3 := number_ok b2 (by omega) s b3 h3
  cases h4 : pNum b3 with
  | none =>
    have c4 := number_no b3 (by omega) h4
    unfold hH rH mC at *
    have nS := e
    repeat' (first|((with_reducible refine sg ?_);first|with_reducible rfl|((with_reducible refine fitG ?_);first|kernel_rfl|rfl|(simp [fitT,fitF,nS];done))|with_reducible refine andT ?_ ?_|with_reducible exact Nat.beq_refl _|with_reducible exact fitsI_u8 _|((with_reducible refine decide_eq_true ?_);first|omega|(simp only [SZl,nS];omega))|decide|(simp [SZl,slc,allOneD,D.one,allOne,AV.one,nS];done)|(simp [SZl,nS];omega))|((with_reducible refine gWl ?_);first|(refine Wl_isMv rfl ?_;refine Xmv eok rfl rfl rfl rfl ?_)|refine Xq eok rfl rfl rfl rfl ?_ ?_|refine Xn [0,1,4,8] rfl ?_|refine XX [0] (c4) rfl rfl ⟨rfl,trivial⟩ rfl rfl rfl ?_|refine XD [0] (c1) rfl rfl rfl ⟨rfl,trivial⟩ rfl rfl rfl rfl ?_|refine XD [0] (c2) rfl rfl rfl ⟨rfl,trivial⟩ rfl rfl rfl rfl ?_|refine XD [0] (c3) rfl rfl rfl ⟨rfl,trivial⟩ rfl rfl rfl rfl ?_|refine Xw eok rfl rfl rfl rfl ?_ ?_)|refine W_seq ?_|refine W_region ?_|refine W_skip ?_|refine W_ret ?_|refine W_block ?_|refine W_exit ?_|refine W_cond_t rfl ?_|refine W_cond_f rfl ?_|(refine W_cond rfl (fun hc => ?_) (fun hc => ?_) <;> (try simp only [HCl] at hc) <;> (try (exfalso;omega))))
    exact ⟨rfl, _, (TSub.us (S := ⟨_, [.gone, .c _], _⟩) 1 15 rfl rfl), Nat.le_refl _, rfl⟩
  | some p =>
    rw [h4] at h
    cases h
theorem pHead_len {m m' : Msg} {b r : List UInt8} (h : pHead m b = some (m', r)) : r.length ≤ b.length := by
  unfold pHead at h
  split at h
  · cases h
  rename_i k b1 h1
  split at h
  · cases h
  split at h
  · cases h
  rename_i c b2 h2
  split at h
  · cases h
  rename_i s b3 h3
  split at h
  · cases h
  rename_i d b4 h4
  simp only [Option.some.injEq, Prod.mk.injEq] at h
  obtain ⟨rfl, rfl⟩ := h
  have l1 := pNum_len h1
  have l2 := pNum_len h2
  have l3 := pNum_len h3
  have l4 := pNum_len h4
  omega
end Wi
end Go.Proofs.YtbpemnmpcljbpaaGreat
