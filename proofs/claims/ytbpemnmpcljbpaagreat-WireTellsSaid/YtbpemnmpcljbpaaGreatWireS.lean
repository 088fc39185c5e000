/- Written by a program (pre.py) from the source of the same name. -/
/- Payloads: what takes bytes from the front. -/
import Derived.Test.YtbpemnmpcljbpaaGreatWireR
import Derived.Test.YtbpemnmpcljbpaaGreatFwE
set_option linter.unusedSimpArgs false
set_option linter.unusedVariables false
set_option linter.unnecessarySimpa false
namespace Go.Proofs.YtbpemnmpcljbpaaGreat
namespace Wi
open Go.Gar
set_option maxRecDepth 4000

def payS (m : Msg) : List UInt8 × Int := if m.right then (payB m, 0) else ([], 2)
theorem Payload_fn (m : Msg) (hl : m.list.length < 9223372036854775807) : Go.Gar.Fn Tryz.prog 6 [m.d] (.tup [.by (payS m).1, .i .i64 (payS m).2]) := by
  cases h : m.right with
  | true =>
    refine Fn_of_D (ds := [m.d]) (Payload_yes m hl h) ?_
    simp [payS, h, Frz_tup, Frzs_cons, Frzs_nil, Frz_d, Frz_sl, sln]
  | false =>
    refine Fn_of_D (ds := [m.d]) (Payload_no m hl h) ?_
    simp [payS, h, Frz_tup, Frzs_cons, Frzs_nil, Frz_d, Frz_e0, sln, isSl, slOk]

def rH (b : List UInt8) : List Blk := [.c [.d (.by b)]]
/-! ### The parser, plain -/
def pNum (b : List UInt8) : Option (Nat × List UInt8) := if (takeS b).2.2 = 0 then some ((takeS b).1, (takeS b).2.1) else none
def pFlag (b : List UInt8) : Option (Bool × List UInt8) := match pNum b with
  | some (n, r) => if n > 1 then none else some (n == 1, r)
  | none => none
def pText (b : List UInt8) : Option (List UInt8 × List UInt8) := if (takeTextS b).2.2 = 0 then some ((takeTextS b).1, (takeTextS b).2.1) else none
def pList (b : List UInt8) : Option (List Int × List UInt8) := if (takeListS b).2.2 = 0 then some ((takeListS b).1, (takeListS b).2.1) else none
def pPair (b : List UInt8) : Option (Item × List UInt8) := match pText b with
  | none => none
  | some (k, b1) => match pNum b1 with
    | none => none
    | some (v, b2) => match pNum b2 with
      | none => none
      | some (n, b3) => match pFlag b3 with
        | none => none
        | some (g, b4) => some (⟨k, v, n, g⟩, b4)
theorem pNum_some {b r : List UInt8} {n : Nat} (h : pNum b = some (n, r)) : takeS b = (n, r, 0) := by
  unfold pNum at h
  split at h
  · rename_i e
    cases h
    rw [← e]
  · cases h
theorem pNum_none {b : List UInt8} (h : pNum b = none) : (takeS b).2.2 ≠ 0 := by
  unfold pNum at h
  split at h
  · cases h
  · assumption
theorem pText_some {b r s : List UInt8} (h : pText b = some (s, r)) : takeTextS b = (s, r, 0) := by
  unfold pText at h
  split at h
  · rename_i e
    cases h
    rw [← e]
  · cases h
theorem pText_none {b : List UInt8} (h : pText b = none) : (takeTextS b).2.2 ≠ 0 := by
  unfold pText at h
  split at h
  · cases h
  · assumption
theorem pList_some {b r : List UInt8} {l : List Int} (h : pList b = some (l, r)) : takeListS b = (l, r, 0) := by
  unfold pList at h
  split at h
  · rename_i e
    cases h
    rw [← e]
  · cases h
theorem pList_none {b : List UInt8} (h : pList b = none) : (takeListS b).2.2 ≠ 0 := by
  unfold pList at h
  split at h
  · cases h
  · assumption
theorem takeS_len (b : List UInt8) : (takeS b).2.1.length ≤ b.length := by
  unfold takeS
  split
  · simp
  · repeat' split
    all_goals simp
    omega
theorem pNum_len {b r : List UInt8} {n : Nat} (h : pNum b = some (n, r)) : r.length ≤ b.length := by
  have := takeS_len b; rw [pNum_some h] at this; exact this
theorem pText_len {b r s : List UInt8} (h : pText b = some (s, r)) : r.length ≤ b.length := by
  have e := pText_some h
  unfold takeTextS at e
  split at e
  · simp at e
  · split at e
    · simp at e
    · simp only [Prod.mk.injEq] at e
      rw [← e.2.1]; simp; omega
theorem pFlag_len {b r : List UInt8} {g : Bool} (h : pFlag b = some (g, r)) : r.length ≤ b.length := by
  unfold pFlag at h
  split at h
  · rename_i n r' e
    split at h
    · cases h
    · cases h; exact pNum_len e
  · cases h

/-! ### The reader -/
theorem number_ok (b : List UInt8) (hb : b.length < 70368744177664) (n : Nat) (r : List UInt8) (h : pNum b = some (n, r)) : FnD Tryz.prog 62 [.ptr 0 0 1] (rH b) (.d (.i .i64 n)) (rH r) := by
  have ht := Take_fn b hb
  rw [pNum_some h] at ht
  unfold takeD3 at ht
  refine FnD_of_W eok Tryz.func62 rfl rfl (Nat.le_of_ble_eq_true rfl) ?_
  unfold rH
  have nS := True.intro
  repeat' (first|((with_reducible refine sg ?_);first|with_reducible rfl|((with_reducible refine fitG ?_);first|kernel_rfl|rfl|(simp [fitT,fitF,nS];done))|with_reducible refine andT ?_ ?_|with_reducible exact Nat.beq_refl _|with_reducible exact fitsI_u8 _|((with_reducible refine decide_eq_true ?_);first|omega|(simp only [SZl,nS];omega))|decide|(simp [SZl,slc,allOneD,D.one,allOne,AV.one,nS];done)|(simp [SZl,nS];omega))|((with_reducible refine gWl ?_);first|(refine Wl_isMv rfl ?_;refine Xmv eok rfl rfl rfl rfl ?_)|refine Xq eok rfl rfl rfl rfl ?_ ?_|refine Xn [0,2,3,4,5] rfl ?_|refine XF (ht) rfl rfl rfl rfl ?_|refine XF (demand_fn 12) rfl rfl rfl rfl ?_|refine Xw eok rfl rfl rfl rfl ?_ ?_)|refine W_seq ?_|refine W_region ?_|refine W_skip ?_|refine W_ret ?_|refine W_block ?_|refine W_exit ?_|refine W_cond_t rfl ?_|refine W_cond_f rfl ?_|(refine W_cond rfl (fun hc => ?_) (fun hc => ?_) <;> (try simp only [HCl] at hc) <;> (try (exfalso;omega))))
  exact ⟨⟨[(2, .d (.i .i64 n))], rH r, Tryz.f62.ntmps⟩, (TSub.cut rfl (by repeat' (first | exact True.intro | refine And.intro (by (first | rfl | ((with_reducible_and_instances refine congrArg (fun z => some (AV.d (D.i _ z))) ?_); omega) | (refine congrArg (fun z => some (AV.d (D.i _ z))) (?_ : (_ : Int) = _); omega) | (refine congrArg some ?_; simp; done))) ?_)) (by repeat' (first | exact True.intro | refine And.intro (Or.inr rfl) ?_ | refine And.intro (Or.inl ⟨rfl, rfl⟩) ?_ | refine And.intro (Or.inr (by simp)) ?_)) (by first | rfl | (simp (decide := true) [heapOk, Blk.ok, AV.oks, AV.ok, hk]; done)) rfl), Nat.le_refl _, _, _, rfl, rfl, rfl, rfl⟩
theorem number_no (b : List UInt8) (hb : b.length < 70368744177664) (h : pNum b = none) : FnX Tryz.prog 62 [.ptr 0 0 1] (rH b) (pF 12) [.gone] := by
  have ht := Take_fn b hb
  unfold takeD3 at ht
  have hd := demand_x (takeS b).2.2 12 (pNum_none h)
  refine FnX_of_W eok Tryz.func62 rfl rfl (Nat.le_of_ble_eq_true rfl) ?_
  unfold rH
  have nS := True.intro
  repeat' (first|((with_reducible refine sg ?_);first|with_reducible rfl|((with_reducible refine fitG ?_);first|kernel_rfl|rfl|(simp [fitT,fitF,nS];done))|with_reducible refine andT ?_ ?_|with_reducible exact Nat.beq_refl _|with_reducible exact fitsI_u8 _|((with_reducible refine decide_eq_true ?_);first|omega|(simp only [SZl,nS];omega))|decide|(simp [SZl,slc,allOneD,D.one,allOne,AV.one,nS];done)|(simp [SZl,nS];omega))|((with_reducible refine gWl ?_);first|(refine Wl_isMv rfl ?_;refine Xmv eok rfl rfl rfl rfl ?_)|refine Xq eok rfl rfl rfl rfl ?_ ?_|refine Xn [0,2,3,4,5] rfl ?_|refine XX [] (hd) rfl rfl trivial rfl rfl rfl ?_|refine XF (ht) rfl rfl rfl rfl ?_|refine Xw eok rfl rfl rfl rfl ?_ ?_)|refine W_seq ?_|refine W_region ?_|refine W_skip ?_|refine W_ret ?_|refine W_block ?_|refine W_exit ?_|refine W_cond_t rfl ?_|refine W_cond_f rfl ?_|(refine W_cond rfl (fun hc => ?_) (fun hc => ?_) <;> (try simp only [HCl] at hc) <;> (try (exfalso;omega))))
  exact ⟨rfl, ⟨[], [.gone], Tryz.f62.ntmps⟩, (TSub.cut rfl (by repeat' (first | exact True.intro | refine And.intro (by (first | rfl | ((with_reducible_and_instances refine congrArg (fun z => some (AV.d (D.i _ z))) ?_); omega) | (refine congrArg (fun z => some (AV.d (D.i _ z))) (?_ : (_ : Int) = _); omega) | (refine congrArg some ?_; simp; done))) ?_)) (by repeat' (first | exact True.intro | refine And.intro (Or.inr rfl) ?_ | refine And.intro (Or.inl ⟨rfl, rfl⟩) ?_ | refine And.intro (Or.inr (by simp)) ?_)) (by first | rfl | (simp (decide := true) [heapOk, Blk.ok, AV.oks, AV.ok, hk]; done)) rfl), Nat.le_refl _, rfl⟩
theorem text_ok (b : List UInt8) (hb : b.length < 70368744177664) (s r : List UInt8) (h : pText b = some (s, r)) : FnD Tryz.prog 68 [.ptr 0 0 1] (rH b) (.d (.s s)) (rH r) := by
  have ht := TakeText_fn b hb
  rw [pText_some h] at ht
  unfold takeT3 at ht
  refine FnD_of_W eok Tryz.func68 rfl rfl (Nat.le_of_ble_eq_true rfl) ?_
  unfold rH
  have nS := True.intro
  repeat' (first|((with_reducible refine sg ?_);first|with_reducible rfl|((with_reducible refine fitG ?_);first|kernel_rfl|rfl|(simp [fitT,fitF,nS];done))|with_reducible refine andT ?_ ?_|with_reducible exact Nat.beq_refl _|with_reducible exact fitsI_u8 _|((with_reducible refine decide_eq_true ?_);first|omega|(simp only [SZl,nS];omega))|decide|(simp [SZl,slc,allOneD,D.one,allOne,AV.one,nS];done)|(simp [SZl,nS];omega))|((with_reducible refine gWl ?_);first|(refine Wl_isMv rfl ?_;refine Xmv eok rfl rfl rfl rfl ?_)|refine Xq eok rfl rfl rfl rfl ?_ ?_|refine Xn [0,2,3,4,5] rfl ?_|refine XF (ht) rfl rfl rfl rfl ?_|refine XF (demand_fn 12) rfl rfl rfl rfl ?_|refine Xw eok rfl rfl rfl rfl ?_ ?_)|refine W_seq ?_|refine W_region ?_|refine W_skip ?_|refine W_ret ?_|refine W_block ?_|refine W_exit ?_|refine W_cond_t rfl ?_|refine W_cond_f rfl ?_|(refine W_cond rfl (fun hc => ?_) (fun hc => ?_) <;> (try simp only [HCl] at hc) <;> (try (exfalso;omega))))
  exact ⟨⟨[(2, .d (.s s))], rH r, Tryz.f68.ntmps⟩, (TSub.cut rfl (by repeat' (first | exact True.intro | refine And.intro (by (first | rfl | ((with_reducible_and_instances refine congrArg (fun z => some (AV.d (D.i _ z))) ?_); omega) | (refine congrArg (fun z => some (AV.d (D.i _ z))) (?_ : (_ : Int) = _); omega) | (refine congrArg some ?_; simp; done))) ?_)) (by repeat' (first | exact True.intro | refine And.intro (Or.inr rfl) ?_ | refine And.intro (Or.inl ⟨rfl, rfl⟩) ?_ | refine And.intro (Or.inr (by simp)) ?_)) (by first | rfl | (simp (decide := true) [heapOk, Blk.ok, AV.oks, AV.ok, hk]; done)) rfl), Nat.le_refl _, _, _, rfl, rfl, rfl, rfl⟩
theorem text_no (b : List UInt8) (hb : b.length < 70368744177664) (h : pText b = none) : FnX Tryz.prog 68 [.ptr 0 0 1] (rH b) (pF 12) [.gone] := by
  have ht := TakeText_fn b hb
  unfold takeT3 at ht
  have hd := demand_x (takeTextS b).2.2 12 (pText_none h)
  refine FnX_of_W eok Tryz.func68 rfl rfl (Nat.le_of_ble_eq_true rfl) ?_
  unfold rH
  have nS := True.intro
  repeat' (first|((with_reducible refine sg ?_);first|with_reducible rfl|((with_reducible refine fitG ?_);first|kernel_rfl|rfl|(simp [fitT,fitF,nS];done))|with_reducible refine andT ?_ ?_|with_reducible exact Nat.beq_refl _|with_reducible exact fitsI_u8 _|((with_reducible refine decide_eq_true ?_);first|omega|(simp only [SZl,nS];omega))|decide|(simp [SZl,slc,allOneD,D.one,allOne,AV.one,nS];done)|(simp [SZl,nS];omega))|((with_reducible refine gWl ?_);first|(refine Wl_isMv rfl ?_;refine Xmv eok rfl rfl rfl rfl ?_)|refine Xq eok rfl rfl rfl rfl ?_ ?_|refine Xn [0,2,3,4,5] rfl ?_|refine XX [] (hd) rfl rfl trivial rfl rfl rfl ?_|refine XF (ht) rfl rfl rfl rfl ?_|refine Xw eok rfl rfl rfl rfl ?_ ?_)|refine W_seq ?_|refine W_region ?_|refine W_skip ?_|refine W_ret ?_|refine W_block ?_|refine W_exit ?_|refine W_cond_t rfl ?_|refine W_cond_f rfl ?_|(refine W_cond rfl (fun hc => ?_) (fun hc => ?_) <;> (try simp only [HCl] at hc) <;> (try (exfalso;omega))))
  exact ⟨rfl, ⟨[], [.gone], Tryz.f68.ntmps⟩, (TSub.cut rfl (by repeat' (first | exact True.intro | refine And.intro (by (first | rfl | ((with_reducible_and_instances refine congrArg (fun z => some (AV.d (D.i _ z))) ?_); omega) | (refine congrArg (fun z => some (AV.d (D.i _ z))) (?_ : (_ : Int) = _); omega) | (refine congrArg some ?_; simp; done))) ?_)) (by repeat' (first | exact True.intro | refine And.intro (Or.inr rfl) ?_ | refine And.intro (Or.inl ⟨rfl, rfl⟩) ?_ | refine And.intro (Or.inr (by simp)) ?_)) (by first | rfl | (simp (decide := true) [heapOk, Blk.ok, AV.oks, AV.ok, hk]; done)) rfl), Nat.le_refl _, rfl⟩
theorem list_ok (b : List UInt8) (hb : b.length < 70368744177664) (l : List Int) (r : List UInt8) (h : pList b = some (l, r)) : FnD Tryz.prog 70 [.ptr 0 0 1] (rH b) (.d (.is l)) (rH r) := by
  have ht := TakeList_fn b hb
  rw [pList_some h] at ht
  unfold takeL3 at ht
  refine FnD_of_W eok Tryz.func70 rfl rfl (Nat.le_of_ble_eq_true rfl) ?_
  unfold rH
  have nS := True.intro
  repeat' (first|((with_reducible refine sg ?_);first|with_reducible rfl|((with_reducible refine fitG ?_);first|kernel_rfl|rfl|(simp [fitT,fitF,nS];done))|with_reducible refine andT ?_ ?_|with_reducible exact Nat.beq_refl _|with_reducible exact fitsI_u8 _|((with_reducible refine decide_eq_true ?_);first|omega|(simp only [SZl,nS];omega))|decide|(simp [SZl,slc,allOneD,D.one,allOne,AV.one,nS];done)|(simp [SZl,nS];omega))|((with_reducible refine gWl ?_);first|(refine Wl_isMv rfl ?_;refine Xmv eok rfl rfl rfl rfl ?_)|refine Xq eok rfl rfl rfl rfl ?_ ?_|refine Xn [0,2,3,4,5] rfl ?_|refine XF (ht) rfl rfl rfl rfl ?_|refine XF (demand_fn 12) rfl rfl rfl rfl ?_|refine Xw eok rfl rfl rfl rfl ?_ ?_)|refine W_seq ?_|refine W_region ?_|refine W_skip ?_|refine W_ret ?_|refine W_block ?_|refine W_exit ?_|refine W_cond_t rfl ?_|refine W_cond_f rfl ?_|(refine W_cond rfl (fun hc => ?_) (fun hc => ?_) <;> (try simp only [HCl] at hc) <;> (try (exfalso;omega))))
  exact ⟨⟨[(2, .d (.is l))], rH r, Tryz.f70.ntmps⟩, (TSub.cut rfl (by repeat' (first | exact True.intro | refine And.intro (by (first | rfl | ((with_reducible_and_instances refine congrArg (fun z => some (AV.d (D.i _ z))) ?_); omega) | (refine congrArg (fun z => some (AV.d (D.i _ z))) (?_ : (_ : Int) = _); omega) | (refine congrArg some ?_; simp; done))) ?_)) (by repeat' (first | exact True.intro | refine And.intro (Or.inr rfl) ?_ | refine And.intro (Or.inl ⟨rfl, rfl⟩) ?_ | refine And.intro (Or.inr (by simp)) ?_)) (by first | rfl | (simp (decide := true) [heapOk, Blk.ok, AV.oks, AV.ok, hk]; done)) rfl), Nat.le_refl _, _, _, rfl, rfl, rfl, rfl⟩
theorem list_no (b : List UInt8) (hb : b.length < 70368744177664) (h : pList b = none) : FnX Tryz.prog 70 [.ptr 0 0 1] (rH b) (pF 12) [.gone] := by
  have ht := TakeList_fn b hb
  unfold takeL3 at ht
  have hd := demand_x (takeListS b).2.2 12 (pList_none h)
  refine FnX_of_W eok Tryz.func70 rfl rfl (Nat.le_of_ble_eq_true rfl) ?_
  unfold rH
  have nS := True.intro
  repeat' (first|((with_reducible refine sg ?_);first|with_reducible rfl|((with_reducible refine fitG ?_);first|kernel_rfl|rfl|(simp [fitT,fitF,nS];done))|with_reducible refine andT ?_ ?_|with_reducible exact Nat.beq_refl _|with_reducible exact fitsI_u8 _|((with_reducible refine decide_eq_true ?_);first|omega|(simp only [SZl,nS];omega))|decide|(simp [SZl,slc,allOneD,D.one,allOne,AV.one,nS];done)|(simp [SZl,nS];omega))|((with_reducible refine gWl ?_);first|(refine Wl_isMv rfl ?_;refine Xmv eok rfl rfl rfl rfl ?_)|refine Xq eok rfl rfl rfl rfl ?_ ?_|refine Xn [0,2,3,4,5] rfl ?_|refine XX [] (hd) rfl rfl trivial rfl rfl rfl ?_|refine XF (ht) rfl rfl rfl rfl ?_|refine Xw eok rfl rfl rfl rfl ?_ ?_)|refine W_seq ?_|refine W_region ?_|refine W_skip ?_|refine W_ret ?_|refine W_block ?_|refine W_exit ?_|refine W_cond_t rfl ?_|refine W_cond_f rfl ?_|(refine W_cond rfl (fun hc => ?_) (fun hc => ?_) <;> (try simp only [HCl] at hc) <;> (try (exfalso;omega))))
  exact ⟨rfl, ⟨[], [.gone], Tryz.f70.ntmps⟩, (TSub.cut rfl (by repeat' (first | exact True.intro | refine And.intro (by (first | rfl | ((with_reducible_and_instances refine congrArg (fun z => some (AV.d (D.i _ z))) ?_); omega) | (refine congrArg (fun z => some (AV.d (D.i _ z))) (?_ : (_ : Int) = _); omega) | (refine congrArg some ?_; simp; done))) ?_)) (by repeat' (first | exact True.intro | refine And.intro (Or.inr rfl) ?_ | refine And.intro (Or.inl ⟨rfl, rfl⟩) ?_ | refine And.intro (Or.inr (by simp)) ?_)) (by first | rfl | (simp (decide := true) [heapOk, Blk.ok, AV.oks, AV.ok, hk]; done)) rfl), Nat.le_refl _, rfl⟩
theorem flag_ok (b : List UInt8) (hb : b.length < 70368744177664) (g : Bool) (r : List UInt8) (h : pFlag b = some (g, r)) : FnD Tryz.prog 64 [.ptr 0 0 1] (rH b) (.d (.b g)) (rH r) := by
  unfold pFlag at h
  split at h
  · rename_i n r' hn
    split at h
    · cases h
    · rename_i h1
      simp only [Option.some.injEq, Prod.mk.injEq] at h
      obtain ⟨rfl, rfl⟩ := h
      have ht := number_ok b hb n r' hn
      have e : ((n : Int) == 1) = (n == 1) := by rw [beq_dec, beq_dec]; congr 1; simp; omega
      refine FnD_of_W eok Tryz.func64 rfl rfl (Nat.le_of_ble_eq_true rfl) ?_
      unfold rH at *
      have nS := e
      repeat' (first|((with_reducible refine sg ?_);first|with_reducible rfl|((with_reducible refine fitG ?_);first|kernel_rfl|rfl|(simp [fitT,fitF,nS];done))|with_reducible refine andT ?_ ?_|with_reducible exact Nat.beq_refl _|with_reducible exact fitsI_u8 _|((with_reducible refine decide_eq_true ?_);first|omega|(simp only [SZl,nS];omega))|decide|(simp [SZl,slc,allOneD,D.one,allOne,AV.one,nS];done)|(simp [SZl,nS];omega))|((with_reducible refine gWl ?_);first|(refine Wl_isMv rfl ?_;refine Xmv eok rfl rfl rfl rfl ?_)|refine Xq eok rfl rfl rfl rfl ?_ ?_|refine Xn [0,2,3,7] rfl ?_|refine XD [0] (ht) rfl rfl rfl ⟨rfl,trivial⟩ rfl rfl rfl rfl ?_)|refine W_seq ?_|refine W_region ?_|refine W_skip ?_|refine W_ret ?_|refine W_block ?_|refine W_exit ?_|refine W_cond_t rfl ?_|refine W_cond_f rfl ?_|(refine W_cond rfl (fun hc => ?_) (fun hc => ?_) <;> (try simp only [HCl] at hc) <;> (try (exfalso;omega))))
      exact ⟨⟨[(2, .d (.b (n == 1)))], rH r', Tryz.f64.ntmps⟩, (TSub.cut rfl (by repeat' (first | exact True.intro | refine And.intro (by (first | rfl | ((with_reducible_and_instances refine congrArg (fun z => some (AV.d (D.i _ z))) ?_); omega) | (refine congrArg (fun z => some (AV.d (D.i _ z))) (?_ : (_ : Int) = _); omega) | (refine congrArg some ?_; simp; done))) ?_)) (by repeat' (first | exact True.intro | refine And.intro (Or.inr rfl) ?_ | refine And.intro (Or.inl ⟨rfl, rfl⟩) ?_ | refine And.intro (Or.inr (by simp)) ?_)) (by first | rfl | (simp (decide := true) [heapOk, Blk.ok, AV.oks, AV.ok, hk]; done)) rfl), Nat.le_refl _, _, _, rfl, rfl, rfl, rfl⟩
  · cases h
theorem flag_no (b : List UInt8) (hb : b.length < 70368744177664) (h : pFlag b = none) : FnX Tryz.prog 64 [.ptr 0 0 1] (rH b) (pF 12) [.gone] := by
  unfold pFlag at h
  refine FnX_of_W eok Tryz.func64 rfl rfl (Nat.le_of_ble_eq_true rfl) ?_
  split at h
  · rename_i n r' hn
    split at h
    · rename_i h1
      have ht := number_ok b hb n r' hn
      unfold rH at *
      have nS := True.intro
      repeat' (first|((with_reducible refine sg ?_);first|with_reducible rfl|((with_reducible refine fitG ?_);first|kernel_rfl|rfl|(simp [fitT,fitF,nS];done))|with_reducible refine andT ?_ ?_|with_reducible exact Nat.beq_refl _|with_reducible exact fitsI_u8 _|((with_reducible refine decide_eq_true ?_);first|omega|(simp only [SZl,nS];omega))|decide|(simp [SZl,slc,allOneD,D.one,allOne,AV.one,nS];done)|(simp [SZl,nS];omega))|((with_reducible refine gWl ?_);first|(refine Wl_isMv rfl ?_;refine Xmv eok rfl rfl rfl rfl ?_)|refine Xq eok rfl rfl rfl rfl ?_ ?_|refine Xn [0,2,3,7] rfl ?_|refine Xpan rfl rfl rfl ?_|refine XD [0] (ht) rfl rfl rfl ⟨rfl,trivial⟩ rfl rfl rfl rfl ?_)|refine W_seq ?_|refine W_region ?_|refine W_skip ?_|refine W_ret ?_|refine W_block ?_|refine W_exit ?_|refine W_cond_t rfl ?_|refine W_cond_f rfl ?_|(refine W_cond rfl (fun hc => ?_) (fun hc => ?_) <;> (try simp only [HCl] at hc) <;> (try (exfalso;omega))))
      exact ⟨rfl, ⟨[], [.gone], Tryz.f64.ntmps⟩, (TSub.cut rfl (by repeat' (first | exact True.intro | refine And.intro (by (first | rfl | ((with_reducible_and_instances refine congrArg (fun z => some (AV.d (D.i _ z))) ?_); omega) | (refine congrArg (fun z => some (AV.d (D.i _ z))) (?_ : (_ : Int) = _); omega) | (refine congrArg some ?_; simp; done))) ?_)) (by repeat' (first | exact True.intro | refine And.intro (Or.inr rfl) ?_ | refine And.intro (Or.inl ⟨rfl, rfl⟩) ?_ | refine And.intro (Or.inr (by simp)) ?_)) (by first | rfl | (simp (decide := true) [heapOk, Blk.ok, AV.oks, AV.ok, hk]; done)) rfl), Nat.le_refl _, rfl⟩
    · cases h
  · rename_i hn
    have ht := number_no b hb hn
    unfold rH at *
    have nS := True.intro
    repeat' (first|((with_reducible refine sg ?_);first|with_reducible rfl|((with_reducible refine fitG ?_);first|kernel_rfl|rfl|(simp [fitT,fitF,nS];done))|with_reducible refine andT ?_ ?_|with_reducible exact Nat.beq_refl _|with_reducible exact fitsI_u8 _|((with_reducible refine decide_eq_true ?_);first|omega|(simp only [SZl,nS];omega))|decide|(simp [SZl,slc,allOneD,D.one,allOne,AV.one,nS];done)|(simp [SZl,nS];omega))|((with_reducible refine gWl ?_);first|(refine Wl_isMv rfl ?_;refine Xmv eok rfl rfl rfl rfl ?_)|refine Xq eok rfl rfl rfl rfl ?_ ?_|refine Xn [0,2,3,7] rfl ?_|refine XX [0] (ht) rfl rfl ⟨rfl,trivial⟩ rfl rfl rfl ?_)|refine W_seq ?_|refine W_region ?_|refine W_skip ?_|refine W_ret ?_|refine W_block ?_|refine W_exit ?_|refine W_cond_t rfl ?_|refine W_cond_f rfl ?_|(refine W_cond rfl (fun hc => ?_) (fun hc => ?_) <;> (try simp only [HCl] at hc) <;> (try (exfalso;omega))))
    exact ⟨rfl, ⟨[], [.gone], Tryz.f64.ntmps⟩, (TSub.cut rfl (by repeat' (first | exact True.intro | refine And.intro (by (first | rfl | ((with_reducible_and_instances refine congrArg (fun z => some (AV.d (D.i _ z))) ?_); omega) | (refine congrArg (fun z => some (AV.d (D.i _ z))) (?_ : (_ : Int) = _); omega) | (refine congrArg some ?_; simp; done))) ?_)) (by repeat' (first | exact True.intro | refine And.intro (Or.inr rfl) ?_ | refine And.intro (Or.inl ⟨rfl, rfl⟩) ?_ | refine And.intro (Or.inr (by simp)) ?_)) (by first | rfl | (simp (decide := true) [heapOk, Blk.ok, AV.oks, AV.ok, hk]; done)) rfl), Nat.le_refl _, rfl⟩
end Wi
end Go.Proofs.YtbpemnmpcljbpaaGreat
