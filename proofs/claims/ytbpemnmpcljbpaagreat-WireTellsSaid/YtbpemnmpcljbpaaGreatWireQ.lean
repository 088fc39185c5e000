/- Written by a program (pre.py) from the source of the same name. -/
/- Payloads: what puts texts, rows, pairs; what each kind has more. -/
import Derived.Test.YtbpemnmpcljbpaaGreatWireP
import Derived.Test.YtbpemnmpcljbpaaGreatFwE
set_option linter.unusedSimpArgs false
set_option linter.unusedVariables false
set_option linter.unnecessarySimpa false
namespace Go.Proofs.YtbpemnmpcljbpaaGreat
namespace Wi
open Go.Gar
set_option maxRecDepth 4000

def textB (s : List UInt8) : List UInt8 := UInt8.ofNat s.length :: s
theorem text_own (s o : List UInt8) (hs : s.length ≤ 255) (ho : o.length ≤ 1000000) :
    FnD Tryz.prog 51 [.ptr 0 0 1, .d (.s s)] (wH o) (.tup []) (wH (o ++ textB s)) := by
  have ht := text_fn s
  have e : textS s = (UInt8.ofNat s.length :: s, 0) := by unfold textS; rw [if_neg (by omega)]
  rw [e] at ht
  refine FnD_of_W eok Tryz.func51 rfl rfl (Nat.le_of_ble_eq_true rfl) ?_
  unfold wH
  have nS := True.intro
  repeat' (first|((with_reducible refine sg ?_);first|with_reducible rfl|((with_reducible refine fitG ?_);first|kernel_rfl|rfl|(simp [fitT,fitF,nS];done))|with_reducible refine andT ?_ ?_|with_reducible exact Nat.beq_refl _|with_reducible exact fitsI_u8 _|((with_reducible refine decide_eq_true ?_);first|omega|(simp only [SZl,nS];omega))|decide|(simp [SZl,slc,allOneD,D.one,allOne,AV.one,nS];done)|(simp [SZl,nS];omega))|((with_reducible refine gWl ?_);first|(refine Wl_isMv rfl ?_;refine Xmv eok rfl rfl rfl rfl ?_)|refine Xq eok rfl rfl rfl rfl ?_ ?_|refine Xn [0,1,4,5] rfl ?_|refine XF (ht) rfl rfl rfl rfl ?_|refine XF (demand_fn 2) rfl rfl rfl rfl ?_|refine Xw eok rfl rfl rfl rfl ?_ ?_)|refine W_seq ?_|refine W_region ?_|refine W_skip ?_|refine W_ret ?_|refine W_block ?_|refine W_exit ?_|refine W_cond_t rfl ?_|refine W_cond_f rfl ?_|(refine W_cond rfl (fun hc => ?_) (fun hc => ?_) <;> (try simp only [HCl] at hc) <;> (try (exfalso;omega))))
  exact ⟨⟨[], wH (o ++ textB s), Tryz.f51.ntmps⟩, (TSub.cut rfl (by repeat' (first | exact True.intro | refine And.intro (by (first | rfl | ((with_reducible_and_instances refine congrArg (fun z => some (AV.d (D.i _ z))) ?_); omega) | (refine congrArg (fun z => some (AV.d (D.i _ z))) (?_ : (_ : Int) = _); omega) | (refine congrArg some ?_; simp; done))) ?_)) (by repeat' (first | exact True.intro | refine And.intro (Or.inr rfl) ?_ | refine And.intro (Or.inl ⟨rfl, rfl⟩) ?_ | refine And.intro (Or.inr (by simp)) ?_)) (by first | rfl | (simp (decide := true) [heapOk, Blk.ok, AV.oks, AV.ok, hk]; done)) rfl), Nat.le_refl _, _, _, rfl, rfl, rfl, rfl⟩
theorem list_own (l : List Int) (o : List UInt8) (hl : l.length ≤ 255) (hf : l.all fits = true) (ho : o.length ≤ 1000000) :
    FnD Tryz.prog 53 [.ptr 0 0 1, .d (.is l)] (wH o) (.tup []) (wH (o ++ (UInt8.ofNat l.length :: numsB l))) := by
  have ht := list_fn l
  have e : listS l = (UInt8.ofNat l.length :: numsB l, 0) := by unfold listS; rw [if_neg (by omega), if_pos hf]
  have hn := numsB_len l hf
  rw [e] at ht
  refine FnD_of_W eok Tryz.func53 rfl rfl (Nat.le_of_ble_eq_true rfl) ?_
  unfold wH
  have nS := True.intro
  repeat' (first|((with_reducible refine sg ?_);first|with_reducible rfl|((with_reducible refine fitG ?_);first|kernel_rfl|rfl|(simp [fitT,fitF,nS];done))|with_reducible refine andT ?_ ?_|with_reducible exact Nat.beq_refl _|with_reducible exact fitsI_u8 _|((with_reducible refine decide_eq_true ?_);first|omega|(simp only [SZl,nS];omega))|decide|(simp [SZl,slc,allOneD,D.one,allOne,AV.one,nS];done)|(simp [SZl,nS];omega))|((with_reducible refine gWl ?_);first|(refine Wl_isMv rfl ?_;refine Xmv eok rfl rfl rfl rfl ?_)|refine Xq eok rfl rfl rfl rfl ?_ ?_|refine Xn [0,1,4,5] rfl ?_|refine XF (ht) rfl rfl rfl rfl ?_|refine XF (demand_fn 2) rfl rfl rfl rfl ?_|refine Xw eok rfl rfl rfl rfl ?_ ?_)|refine W_seq ?_|refine W_region ?_|refine W_skip ?_|refine W_ret ?_|refine W_block ?_|refine W_exit ?_|refine W_cond_t rfl ?_|refine W_cond_f rfl ?_|(refine W_cond rfl (fun hc => ?_) (fun hc => ?_) <;> (try simp only [HCl] at hc) <;> (try (exfalso;omega))))
  exact ⟨⟨[], wH (o ++ (UInt8.ofNat l.length :: numsB l)), Tryz.f53.ntmps⟩, (TSub.cut rfl (by repeat' (first | exact True.intro | refine And.intro (by (first | rfl | ((with_reducible_and_instances refine congrArg (fun z => some (AV.d (D.i _ z))) ?_); omega) | (refine congrArg (fun z => some (AV.d (D.i _ z))) (?_ : (_ : Int) = _); omega) | (refine congrArg some ?_; simp; done))) ?_)) (by repeat' (first | exact True.intro | refine And.intro (Or.inr rfl) ?_ | refine And.intro (Or.inl ⟨rfl, rfl⟩) ?_ | refine And.intro (Or.inr (by simp)) ?_)) (by first | rfl | (simp (decide := true) [heapOk, Blk.ok, AV.oks, AV.ok, hk]; done)) rfl), Nat.le_refl _, _, _, rfl, rfl, rfl, rfl⟩
def pairB (x : Item) : List UInt8 := textB x.key ++ numsB [x.value, x.version, bitI x.gone]
theorem fits_bit (b : Bool) : fits (bitI b) = true := by cases b <;> rfl
theorem pair_own (x : Item) (o : List UInt8) (hs : x.key.length ≤ 255) (h1 : fits x.value = true) (h2 : fits x.version = true) (ho : o.length ≤ 100000) :
    FnD Tryz.prog 49 [.ptr 0 0 1, .d x.d] (wH o) (.tup []) (wH (o ++ pairB x)) := by
  obtain ⟨k, v, n, g⟩ := x
  have ht := text_own k o hs (by omega)
  have hp := put_own [v, n, bitI g] (o ++ textB k) (by simp only [List.all_cons, List.all_nil, fits_bit, Bool.and_true]; rw [h1, h2]; rfl) (by simp) (by simp only [textB, List.length_append, List.length_cons]; simp at hs; omega)
  have hb := bit_fn g
  refine FnD_of_W eok Tryz.func49 rfl rfl (Nat.le_of_ble_eq_true rfl) ?_
  unfold wH at *
  have nS := True.intro
  repeat' (first|((with_reducible refine sg ?_);first|with_reducible rfl|((with_reducible refine fitG ?_);first|kernel_rfl|rfl|(simp [fitT,fitF,nS];done))|with_reducible refine andT ?_ ?_|with_reducible exact Nat.beq_refl _|with_reducible exact fitsI_u8 _|((with_reducible refine decide_eq_true ?_);first|omega|(simp only [SZl,nS];omega))|decide|(simp [SZl,slc,allOneD,D.one,allOne,AV.one,nS];done)|(simp [SZl,nS];omega))|((with_reducible refine gWl ?_);first|(refine Wl_isMv rfl ?_;refine Xmv eok rfl rfl rfl rfl ?_)|refine Xq eok rfl rfl rfl rfl ?_ ?_|refine Xn [0,1,3] rfl ?_|refine XF (hb) rfl rfl rfl rfl ?_|refine XD [0,1] (ht) rfl rfl rfl ⟨rfl,rfl,trivial⟩ rfl rfl rfl rfl ?_|refine XD [0,1] (hp) rfl rfl rfl ⟨rfl,rfl,trivial⟩ rfl rfl rfl rfl ?_|refine Xa eok rfl rfl rfl rfl rfl ?_ ?_)|((with_reducible refine gWd ?_);first|(refine Wd_isMv rfl ?_;refine Ymv eok rfl rfl (fun _ => rfl) rfl rfl ?_)|refine Yp eok rfl rfl (fun _ => rfl) rfl rfl ?_ ?_|refine Yq rfl rfl rfl rfl rfl ?_ ?_|refine Ys rfl rfl rfl rfl ?_|refine YF (hb) rfl rfl rfl rfl rfl ?_|refine YD [0,1] (ht) rfl rfl rfl rfl ⟨rfl,rfl,trivial⟩ rfl rfl rfl rfl ?_|refine YD [0,1] (hp) rfl rfl rfl rfl ⟨rfl,rfl,trivial⟩ rfl rfl rfl rfl ?_|refine Ya eok rfl rfl rfl rfl rfl rfl ?_ ?_|refine Yw eok rfl rfl rfl rfl rfl ?_ ?_|refine Yn [0,1,3] [] mixed eok (by kernel_rfl) True.intro rfl ?_)|refine W_seq ?_|refine W_region ?_|refine W_any T.get ?_|refine W_skip ?_|refine W_ret ?_|refine W_block ?_|refine W_exit ?_|refine W_cond_t rfl ?_|refine W_cond_f rfl ?_|(refine W_cond rfl (fun hc => ?_) (fun hc => ?_) <;> (try simp only [HCl] at hc) <;> (try (exfalso;omega))))
  exact ⟨⟨[], wH (o ++ textB k ++ numsB [v, n, bitI g]), Tryz.f49.ntmps⟩, (TSub.cut rfl (by repeat' (first | exact True.intro | refine And.intro (by (first | rfl | ((with_reducible_and_instances refine congrArg (fun z => some (AV.d (D.i _ z))) ?_); omega) | (refine congrArg (fun z => some (AV.d (D.i _ z))) (?_ : (_ : Int) = _); omega) | (refine congrArg some ?_; simp; done))) ?_)) (by repeat' (first | exact True.intro | refine And.intro (Or.inr rfl) ?_ | refine And.intro (Or.inl ⟨rfl, rfl⟩) ?_ | refine And.intro (Or.inr (by simp)) ?_)) (by first | rfl | (simp (decide := true) [heapOk, Blk.ok, AV.oks, AV.ok, hk]; done)) rfl), Nat.le_refl _, _, _, rfl, rfl, rfl, by simp only [wH, pairB, List.append_assoc]⟩

/-! ### What each kind has more -/
def kH (m : Msg) (o : List UInt8) : List Blk := [.c [.ptr 2 0 1], .c (mC m), .c [.sl 3 o.length 1], .a (.by o)]
def moreB (m : Msg) : List UInt8 :=
  if m.kind = 4 then numsB [m.key, bitI m.slow] else
  if m.kind = 5 then pairB m.item else
  if m.kind = 6 then textB m.item.key else
  if m.kind = 7 then numsB [m.pred + 1] ++ (UInt8.ofNat m.list.length :: numsB m.list) else
  if m.kind = 10 then numsB [m.place, bitI m.done] else
  if m.kind = 11 then numsB [m.code] else
  if m.kind = 12 then numsB [m.code] ++ (if m.code = 0 then pairB m.item else []) else []
theorem w1_own (m : Msg) (o : List UInt8) (h : fits m.key = true) (ho : o.length ≤ 100000) : FnD Tryz.prog 46 [.ptr 0 0 1, .ptr 1 0 15] (kH m o) (.tup []) (kH m (o ++ numsB [m.key, bitI m.slow])) := by
  have hp := put_own [m.key, bitI m.slow] o (by simp only [List.all_cons, List.all_nil, fits_bit, Bool.and_true]; exact h) (by simp) (by omega)
  have hb := bit_fn m.slow
  refine FnD_of_W eok Tryz.func46 rfl rfl (Nat.le_of_ble_eq_true rfl) ?_
  unfold kH mC wH at *
  have nS := True.intro
  repeat' (first|((with_reducible refine sg ?_);first|with_reducible rfl|((with_reducible refine fitG ?_);first|kernel_rfl|rfl|(simp [fitT,fitF,nS];done))|with_reducible refine andT ?_ ?_|with_reducible exact Nat.beq_refl _|with_reducible exact fitsI_u8 _|((with_reducible refine decide_eq_true ?_);first|omega|(simp only [SZl,nS];omega))|decide|(simp [SZl,slc,allOneD,D.one,allOne,AV.one,nS];done)|(simp [SZl,nS];omega))|((with_reducible refine gWl ?_);first|(refine Wl_isMv rfl ?_;refine Xmv eok rfl rfl rfl rfl ?_)|refine Xq eok rfl rfl rfl rfl ?_ ?_|refine Xn [0,1] rfl ?_|refine XF (hb) rfl rfl rfl rfl ?_|refine XD [2,3] (hp) rfl rfl rfl ⟨rfl,rfl,trivial⟩ rfl rfl rfl rfl ?_)|((with_reducible refine gWd ?_);first|(refine Wd_isMv rfl ?_;refine Ymv eok rfl rfl (fun _ => rfl) rfl rfl ?_)|refine Yp eok rfl rfl (fun _ => rfl) rfl rfl ?_ ?_|refine Yq rfl rfl rfl rfl rfl ?_ ?_|refine Ys rfl rfl rfl rfl ?_|refine YF (hb) rfl rfl rfl rfl rfl ?_|refine YD [2,3] (hp) rfl rfl rfl rfl ⟨rfl,rfl,trivial⟩ rfl rfl rfl rfl ?_|refine Ya eok rfl rfl rfl rfl rfl rfl ?_ ?_|refine Yw eok rfl rfl rfl rfl rfl ?_ ?_|refine Yn [0,1] [] mixed eok (by kernel_rfl) True.intro rfl ?_)|refine W_seq ?_|refine W_region ?_|refine W_any T.get ?_|refine W_skip ?_|refine W_ret ?_|refine W_block ?_|refine W_exit ?_|refine W_cond_t rfl ?_|refine W_cond_f rfl ?_|(refine W_cond rfl (fun hc => ?_) (fun hc => ?_) <;> (try simp only [HCl] at hc) <;> (try (exfalso;omega))))
  exact ⟨_, TSub.refl _, Nat.le_refl _, _, _, rfl, rfl, rfl, rfl⟩
theorem w5_own (m : Msg) (o : List UInt8) (h : fits m.place = true) (ho : o.length ≤ 100000) : FnD Tryz.prog 54 [.ptr 0 0 1, .ptr 1 0 15] (kH m o) (.tup []) (kH m (o ++ numsB [m.place, bitI m.done])) := by
  have hp := put_own [m.place, bitI m.done] o (by simp only [List.all_cons, List.all_nil, fits_bit, Bool.and_true]; exact h) (by simp) (by omega)
  have hb := bit_fn m.done
  refine FnD_of_W eok Tryz.func54 rfl rfl (Nat.le_of_ble_eq_true rfl) ?_
  unfold kH mC wH at *
  have nS := True.intro
  repeat' (first|((with_reducible refine sg ?_);first|with_reducible rfl|((with_reducible refine fitG ?_);first|kernel_rfl|rfl|(simp [fitT,fitF,nS];done))|with_reducible refine andT ?_ ?_|with_reducible exact Nat.beq_refl _|with_reducible exact fitsI_u8 _|((with_reducible refine decide_eq_true ?_);first|omega|(simp only [SZl,nS];omega))|decide|(simp [SZl,slc,allOneD,D.one,allOne,AV.one,nS];done)|(simp [SZl,nS];omega))|((with_reducible refine gWl ?_);first|(refine Wl_isMv rfl ?_;refine Xmv eok rfl rfl rfl rfl ?_)|refine Xq eok rfl rfl rfl rfl ?_ ?_|refine Xn [0,1] rfl ?_|refine XF (hb) rfl rfl rfl rfl ?_|refine XD [2,3] (hp) rfl rfl rfl ⟨rfl,rfl,trivial⟩ rfl rfl rfl rfl ?_)|((with_reducible refine gWd ?_);first|(refine Wd_isMv rfl ?_;refine Ymv eok rfl rfl (fun _ => rfl) rfl rfl ?_)|refine Yp eok rfl rfl (fun _ => rfl) rfl rfl ?_ ?_|refine Yq rfl rfl rfl rfl rfl ?_ ?_|refine Ys rfl rfl rfl rfl ?_|refine YF (hb) rfl rfl rfl rfl rfl ?_|refine YD [2,3] (hp) rfl rfl rfl rfl ⟨rfl,rfl,trivial⟩ rfl rfl rfl rfl ?_|refine Ya eok rfl rfl rfl rfl rfl rfl ?_ ?_|refine Yw eok rfl rfl rfl rfl rfl ?_ ?_|refine Yn [0,1] [] mixed eok (by kernel_rfl) True.intro rfl ?_)|refine W_seq ?_|refine W_region ?_|refine W_any T.get ?_|refine W_skip ?_|refine W_ret ?_|refine W_block ?_|refine W_exit ?_|refine W_cond_t rfl ?_|refine W_cond_f rfl ?_|(refine W_cond rfl (fun hc => ?_) (fun hc => ?_) <;> (try simp only [HCl] at hc) <;> (try (exfalso;omega))))
  exact ⟨_, TSub.refl _, Nat.le_refl _, _, _, rfl, rfl, rfl, rfl⟩
theorem w2_own (m : Msg) (o : List UInt8) (hs : m.item.key.length ≤ 255) (h1 : fits m.item.value = true) (h2 : fits m.item.version = true) (ho : o.length ≤ 100000) : FnD Tryz.prog 48 [.ptr 0 0 1, .ptr 1 0 15] (kH m o) (.tup []) (kH m (o ++ pairB m.item)) := by
  have hp := pair_own m.item o hs h1 h2 ho
  refine FnD_of_W eok Tryz.func48 rfl rfl (Nat.le_of_ble_eq_true rfl) ?_
  unfold kH mC wH at *
  have nS := True.intro
  repeat' (first|((with_reducible refine sg ?_);first|with_reducible rfl|((with_reducible refine fitG ?_);first|kernel_rfl|rfl|(simp [fitT,fitF,nS];done))|with_reducible refine andT ?_ ?_|with_reducible exact Nat.beq_refl _|with_reducible exact fitsI_u8 _|((with_reducible refine decide_eq_true ?_);first|omega|(simp only [SZl,nS];omega))|decide|(simp [SZl,slc,allOneD,D.one,allOne,AV.one,nS];done)|(simp [SZl,nS];omega))|((with_reducible refine gWl ?_);first|(refine Wl_isMv rfl ?_;refine Xmv eok rfl rfl rfl rfl ?_)|refine Xq eok rfl rfl rfl rfl ?_ ?_|refine Xn [0,1] rfl ?_|refine XD [2,3] (hp) rfl rfl rfl ⟨rfl,rfl,trivial⟩ rfl rfl rfl rfl ?_)|refine W_seq ?_|refine W_region ?_|refine W_skip ?_|refine W_ret ?_|refine W_block ?_|refine W_exit ?_|refine W_cond_t rfl ?_|refine W_cond_f rfl ?_|(refine W_cond rfl (fun hc => ?_) (fun hc => ?_) <;> (try simp only [HCl] at hc) <;> (try (exfalso;omega))))
  exact ⟨_, TSub.refl _, Nat.le_refl _, _, _, rfl, rfl, rfl, rfl⟩
theorem w3_own (m : Msg) (o : List UInt8) (hs : m.item.key.length ≤ 255) (ho : o.length ≤ 100000) : FnD Tryz.prog 50 [.ptr 0 0 1, .ptr 1 0 15] (kH m o) (.tup []) (kH m (o ++ textB m.item.key)) := by
  have hp := text_own m.item.key o hs (by omega)
  refine FnD_of_W eok Tryz.func50 rfl rfl (Nat.le_of_ble_eq_true rfl) ?_
  unfold kH mC wH at *
  have nS := True.intro
  repeat' (first|((with_reducible refine sg ?_);first|with_reducible rfl|((with_reducible refine fitG ?_);first|kernel_rfl|rfl|(simp [fitT,fitF,nS];done))|with_reducible refine andT ?_ ?_|with_reducible exact Nat.beq_refl _|with_reducible exact fitsI_u8 _|((with_reducible refine decide_eq_true ?_);first|omega|(simp only [SZl,nS];omega))|decide|(simp [SZl,slc,allOneD,D.one,allOne,AV.one,nS];done)|(simp [SZl,nS];omega))|((with_reducible refine gWl ?_);first|(refine Wl_isMv rfl ?_;refine Xmv eok rfl rfl rfl rfl ?_)|refine Xq eok rfl rfl rfl rfl ?_ ?_|refine Xn [0,1] rfl ?_|refine XD [2,3] (hp) rfl rfl rfl ⟨rfl,rfl,trivial⟩ rfl rfl rfl rfl ?_)|refine W_seq ?_|refine W_region ?_|refine W_skip ?_|refine W_ret ?_|refine W_block ?_|refine W_exit ?_|refine W_cond_t rfl ?_|refine W_cond_f rfl ?_|(refine W_cond rfl (fun hc => ?_) (fun hc => ?_) <;> (try simp only [HCl] at hc) <;> (try (exfalso;omega))))
  exact ⟨_, TSub.refl _, Nat.le_refl _, _, _, rfl, rfl, rfl, rfl⟩
theorem w4_own (m : Msg) (o : List UInt8) (h : fits (m.pred + 1) = true) (hl : m.list.length ≤ 255) (hf : m.list.all fits = true) (ho : o.length ≤ 100000) :
    FnD Tryz.prog 52 [.ptr 0 0 1, .ptr 1 0 15] (kH m o) (.tup []) (kH m (o ++ numsB [m.pred + 1] ++ (UInt8.ofNat m.list.length :: numsB m.list))) := by
  have hp := put_own [m.pred + 1] o (by simp only [List.all_cons, List.all_nil, Bool.and_true]; exact h) (by simp) (by omega)
  have hn := numsB_len [m.pred + 1] (by simp only [List.all_cons, List.all_nil, Bool.and_true]; exact h)
  have hp2 := list_own m.list (o ++ numsB [m.pred + 1]) hl hf (by simp only [List.length_append]; simp only [List.length_cons, List.length_nil] at hn; omega)
  have hb : -1 ≤ m.pred ∧ m.pred ≤ 1099511627776 := by simp [fits] at h; omega
  refine FnD_of_W eok Tryz.func52 rfl rfl (Nat.le_of_ble_eq_true rfl) ?_
  unfold kH mC wH at *
  have nS := True.intro
  repeat' (first|((with_reducible refine sg ?_);first|with_reducible rfl|((with_reducible refine fitG ?_);first|kernel_rfl|rfl|(simp [fitT,fitF,nS];done))|with_reducible refine andT ?_ ?_|with_reducible exact Nat.beq_refl _|with_reducible exact fitsI_u8 _|((with_reducible refine decide_eq_true ?_);first|omega|(simp only [SZl,nS];omega))|decide|(simp [SZl,slc,allOneD,D.one,allOne,AV.one,nS];done)|(simp [SZl,nS];omega))|((with_reducible refine gWl ?_);first|(refine Wl_isMv rfl ?_;refine Xmv eok rfl rfl rfl rfl ?_)|refine Xq eok rfl rfl rfl rfl ?_ ?_|refine Xn [0,1] rfl ?_|refine XD [2,3] (hp) rfl rfl rfl ⟨rfl,rfl,trivial⟩ rfl rfl rfl rfl ?_|refine XD [2,3] (hp2) rfl rfl rfl ⟨rfl,rfl,trivial⟩ rfl rfl rfl rfl ?_)|refine W_seq ?_|refine W_region ?_|refine W_skip ?_|refine W_ret ?_|refine W_block ?_|refine W_exit ?_|refine W_cond_t rfl ?_|refine W_cond_f rfl ?_|(refine W_cond rfl (fun hc => ?_) (fun hc => ?_) <;> (try simp only [HCl] at hc) <;> (try (exfalso;omega))))
  exact ⟨_, TSub.refl _, Nat.le_refl _, _, _, rfl, rfl, rfl, rfl⟩
theorem w6_own (m : Msg) (o : List UInt8) (h : fits m.code = true) (ho : o.length ≤ 100000) : FnD Tryz.prog 55 [.ptr 0 0 1, .ptr 1 0 15] (kH m o) (.tup []) (kH m (o ++ numsB [m.code])) := by
  have hp := put_own [m.code] o (by simp only [List.all_cons, List.all_nil, Bool.and_true]; exact h) (by simp) (by omega)
  refine FnD_of_W eok Tryz.func55 rfl rfl (Nat.le_of_ble_eq_true rfl) ?_
  unfold kH mC wH at *
  have nS := True.intro
  repeat' (first|((with_reducible refine sg ?_);first|with_reducible rfl|((with_reducible refine fitG ?_);first|kernel_rfl|rfl|(simp [fitT,fitF,nS];done))|with_reducible refine andT ?_ ?_|with_reducible exact Nat.beq_refl _|with_reducible exact fitsI_u8 _|((with_reducible refine decide_eq_true ?_);first|omega|(simp only [SZl,nS];omega))|decide|(simp [SZl,slc,allOneD,D.one,allOne,AV.one,nS];done)|(simp [SZl,nS];omega))|((with_reducible refine gWl ?_);first|(refine Wl_isMv rfl ?_;refine Xmv eok rfl rfl rfl rfl ?_)|refine Xq eok rfl rfl rfl rfl ?_ ?_|refine Xn [0,1] rfl ?_|refine XD [2,3] (hp) rfl rfl rfl ⟨rfl,rfl,trivial⟩ rfl rfl rfl rfl ?_)|refine W_seq ?_|refine W_region ?_|refine W_skip ?_|refine W_ret ?_|refine W_block ?_|refine W_exit ?_|refine W_cond_t rfl ?_|refine W_cond_f rfl ?_|(refine W_cond rfl (fun hc => ?_) (fun hc => ?_) <;> (try simp only [HCl] at hc) <;> (try (exfalso;omega))))
  exact ⟨_, TSub.refl _, Nat.le_refl _, _, _, rfl, rfl, rfl, rfl⟩
theorem w7_own (m : Msg) (o : List UInt8) (h : fits m.code = true) (hI : m.code = 0 → m.item.key.length ≤ 255 ∧ fits m.item.value = true ∧ fits m.item.version = true) (ho : o.length ≤ 10000) :
    FnD Tryz.prog 56 [.ptr 0 0 1, .ptr 1 0 15] (kH m o) (.tup []) (kH m (o ++ (numsB [m.code] ++ (if m.code = 0 then pairB m.item else [])))) := by
  have hp := put_own [m.code] o (by simp only [List.all_cons, List.all_nil, Bool.and_true]; exact h) (by simp) (by omega)
  have hn := numsB_len [m.code] (by simp only [List.all_cons, List.all_nil, Bool.and_true]; exact h)
  simp only [List.length_cons, List.length_nil] at hn
  refine FnD_of_W eok Tryz.func56 rfl rfl (Nat.le_of_ble_eq_true rfl) ?_
  by_cases hc0 : m.code = 0
  · obtain ⟨a1, a2, a3⟩ := hI hc0
    have hp2 := pair_own m.item (o ++ numsB [m.code]) a1 a2 a3 (by simp only [List.length_append]; omega)
    have f := eq_true' hc0
    rw [if_pos hc0, ← List.append_assoc]
    unfold kH mC wH at *
    have nS := f
    repeat' (first|((with_reducible refine sg ?_);first|with_reducible rfl|((with_reducible refine fitG ?_);first|kernel_rfl|rfl|(simp [fitT,fitF,nS];done))|with_reducible refine andT ?_ ?_|with_reducible exact Nat.beq_refl _|with_reducible exact fitsI_u8 _|((with_reducible refine decide_eq_true ?_);first|omega|(simp only [SZl,nS];omega))|decide|(simp [SZl,slc,allOneD,D.one,allOne,AV.one,nS];done)|(simp [SZl,nS];omega))|((with_reducible refine gWl ?_);first|(refine Wl_isMv rfl ?_;refine Xmv eok rfl rfl rfl rfl ?_)|refine Xq eok rfl rfl rfl rfl ?_ ?_|refine Xn [0,1,9] rfl ?_|refine XD [2,3] (hp) rfl rfl rfl ⟨rfl,rfl,trivial⟩ rfl rfl rfl rfl ?_|refine XD [2,3] (hp2) rfl rfl rfl ⟨rfl,rfl,trivial⟩ rfl rfl rfl rfl ?_)|refine W_seq ?_|refine W_region ?_|refine W_skip ?_|refine W_ret ?_|refine W_block ?_|refine W_exit ?_|refine W_cond_t rfl ?_|refine W_cond_f rfl ?_|(refine W_cond rfl (fun hc => ?_) (fun hc => ?_) <;> (try simp only [HCl] at hc) <;> (try (exfalso;omega))))
    exact ⟨_, TSub.refl _, Nat.le_refl _, _, _, rfl, rfl, rfl, rfl⟩
  · have f := eq_false' hc0
    rw [if_neg hc0, List.append_nil]
    unfold kH mC wH at *
    have nS := f
    repeat' (first|((with_reducible refine sg ?_);first|with_reducible rfl|((with_reducible refine fitG ?_);first|kernel_rfl|rfl|(simp [fitT,fitF,nS];done))|with_reducible refine andT ?_ ?_|with_reducible exact Nat.beq_refl _|with_reducible exact fitsI_u8 _|((with_reducible refine decide_eq_true ?_);first|omega|(simp only [SZl,nS];omega))|decide|(simp [SZl,slc,allOneD,D.one,allOne,AV.one,nS];done)|(simp [SZl,nS];omega))|((with_reducible refine gWl ?_);first|(refine Wl_isMv rfl ?_;refine Xmv eok rfl rfl rfl rfl ?_)|refine Xq eok rfl rfl rfl rfl ?_ ?_|refine Xn [0,1,9] rfl ?_|refine XD [2,3] (hp) rfl rfl rfl ⟨rfl,rfl,trivial⟩ rfl rfl rfl rfl ?_)|refine W_seq ?_|refine W_region ?_|refine W_skip ?_|refine W_ret ?_|refine W_block ?_|refine W_exit ?_|refine W_cond_t rfl ?_|refine W_cond_f rfl ?_|(refine W_cond rfl (fun hc => ?_) (fun hc => ?_) <;> (try simp only [HCl] at hc) <;> (try (exfalso;omega))))
    exact ⟨_, TSub.refl _, Nat.le_refl _, _, _, rfl, rfl, rfl, rfl⟩
end Wi
end Go.Proofs.YtbpemnmpcljbpaaGreat
