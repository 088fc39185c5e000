/- Written by a program (pre.py) from the source of the same name. -/
/- Numbers: lists. -/
import Derived.Test.YtbpemnmpcljbpaaGreatNum4
set_option linter.unusedSimpArgs false
set_option linter.unusedVariables false
set_option linter.unnecessarySimpa false
namespace Go.Proofs.YtbpemnmpcljbpaaGreat
open Go.Gar
set_option maxRecDepth 4000

/-- A list's numbers' bytes. -/
def numsB : List Int → List UInt8
  | [] => []
  | n :: l => numB n.toNat ++ numsB l
theorem numsB_app (a b : List Int) : numsB (a ++ b) = numsB a ++ numsB b := by
  induction a with
  | nil => rfl
  | cons x r ih => simp [numsB, ih]
def listS (l : List Int) : List UInt8 × Int := if l.length > 255 then ([], 2) else if l.all fits then (UInt8.ofNat l.length :: numsB l, 0) else ([], 2)
theorem fits_nat {n : Int} (h : fits n = true) : ∃ m : Nat, n = m ∧ m ≤ 1099511627776 := by
  simp [fits] at h; exact ⟨n.toNat, by omega, by omega⟩
theorem numsB_len (l : List Int) (h : l.all fits = true) : (numsB l).length ≤ 7 * l.length := by
  induction l with
  | nil => simp [numsB]
  | cons x r ih =>
    simp only [List.all_cons, Bool.and_eq_true] at h
    obtain ⟨m, rfl, hm⟩ := fits_nat h.1
    have := numB_len m hm
    have := ih h.2
    simp only [numsB, List.length_append, List.length_cons, Int.toNat_natCast]; omega
theorem all_take_succ {l : List Int} {k : Nat} (h : k < l.length) : (l.take (k + 1)).all fits = ((l.take k).all fits && fits (l.getD k 0)) := by
  rw [List.take_succ_eq_append_getElem h, List.getD_eq_getElem?_getD, List.getElem?_eq_getElem h, List.all_append]; simp
theorem numsB_take_succ {l : List Int} {k : Nat} (h : k < l.length) : numsB (l.take (k + 1)) = numsB (l.take k) ++ numB (l.getD k 0).toNat := by
  rw [List.take_succ_eq_append_getElem h, numsB_app, List.getD_eq_getElem?_getD, List.getElem?_eq_getElem h]; simp [numsB]

set_option maxHeartbeats 4000000 in
theorem list_fn (l : List Int) : Go.Gar.Fn Tryz.prog 92 [.is l] (.tup [.by (listS l).1, .i .i64 (listS l).2]) := by
  refine Fn_of_W eok Tryz.func92 rfl rfl (Nat.le_of_ble_eq_true rfl) ?_
  by_cases hl : l.length > 255
  · have nS := True.intro
    repeat' (first|((with_reducible refine sg ?_);first|with_reducible rfl|((with_reducible refine fitG ?_);first|kernel_rfl|rfl|(simp [fitT,fitF,nS];done))|with_reducible refine andT ?_ ?_|with_reducible exact Nat.beq_refl _|with_reducible exact fitsI_u8 _|((with_reducible refine decide_eq_true ?_);first|omega|(simp only [SZl,nS];omega))|decide|(simp [SZl,slc,allOneD,D.one,allOne,AV.one,nS];done)|(simp [SZl,nS];omega))|((with_reducible refine gWl ?_);first|(refine Wl_isMv rfl ?_;refine Xmv eok rfl rfl rfl rfl ?_)|refine Xq eok rfl rfl rfl rfl ?_ ?_|refine Xn [0,2,3,4,6,9,16,17,18,19,24] rfl ?_|refine Xw eok rfl rfl rfl rfl ?_ ?_)|refine W_seq ?_|refine W_region ?_|refine W_skip ?_|refine W_ret ?_|refine W_block ?_|refine W_exit ?_|refine W_scope 3 ?_|refine W_goto ?_|refine W_label ?_|refine W_cond_t rfl ?_|refine W_cond_f rfl ?_|(refine W_cond rfl (fun hc => ?_) (fun hc => ?_) <;> (try simp only [HCl] at hc) <;> (try (exfalso;omega))))
    refine ⟨_, _, rfl, rfl, ?_⟩; simp [Frz_tup, Frz_ag, Frzs_cons, Frzs_nil, Frz_d, Frz_e0, Frz_sl, sln, isSl, slOk, listS, hl]
  have h1 : (l.length : Int) % 256 = l.length := by omega
  have nS := h1
  repeat' (first|((with_reducible refine sg ?_);first|with_reducible rfl|((with_reducible refine fitG ?_);first|kernel_rfl|rfl|(simp [fitT,fitF,nS];done))|with_reducible refine andT ?_ ?_|with_reducible exact Nat.beq_refl _|with_reducible exact fitsI_u8 _|((with_reducible refine decide_eq_true ?_);first|omega|(simp only [SZl,nS];omega))|decide|(simp [SZl,slc,allOneD,D.one,allOne,AV.one,nS];done)|(simp [SZl,nS];omega))|((with_reducible refine gWl ?_);first|(refine Wl_isMv rfl ?_;refine Xmv eok rfl rfl rfl rfl ?_)|refine XaoL [15] eok rfl rfl rfl rfl rfl rfl ?_ ?_|refine Xq eok rfl rfl rfl rfl ?_ ?_|refine Xn [0,2,3,4,6,9,16,17,18,19,24] rfl ?_|refine Xw eok rfl rfl rfl rfl ?_ ?_)|refine W_seq ?_|refine W_region ?_|refine W_skip ?_|refine W_ret ?_|refine W_block ?_|refine W_exit ?_|refine W_scope 3 ?_|refine W_goto ?_|refine W_label ?_|refine W_cond_t rfl ?_|refine W_cond_f rfl ?_|(refine W_cond rfl (fun hc => ?_) (fun hc => ?_) <;> (try simp only [HCl] at hc) <;> (try (exfalso;omega))))
  refine W_loopI (fun k => k ≤ l.length ∧ (l.take k).all fits = true) (fun k : Nat => ⟨[(0, .d (.is l)), (2, .e0), (3, .d (.i .i64 0)), (4, .sl 0 (UInt8.ofNat l.length :: numsB (l.take k)).length 1), (16, .d (.is l)), (17, .d (.i .i64 l.length)), (18, .d (.i .i64 k))], [.a (.by (UInt8.ofNat l.length :: numsB (l.take k)))], 30⟩) (fun k => l.length - k) 0 ⟨Nat.zero_le _, by simp⟩ ?_ (Nat.le_refl _) ?_
  · exact TSub.cut rfl (by repeat' (first | exact True.intro | refine And.intro (by (first | rfl | ((with_reducible_and_instances refine congrArg (fun z => some (AV.d (D.i _ z))) ?_); omega) | (refine congrArg (fun z => some (AV.d (D.i _ z))) (?_ : (_ : Int) = _); omega) | (refine congrArg some ?_; simp; done))) ?_)) (by repeat' (first | exact True.intro | refine And.intro (Or.inr rfl) ?_ | refine And.intro (Or.inl ⟨rfl, rfl⟩) ?_ | refine And.intro (Or.inr (by simp)) ?_)) (by first | rfl | (simp (decide := true) [heapOk, Blk.ok, AV.oks, AV.ok, hk]; done)) rfl
  rintro k ⟨hk, hpre⟩
  have hlen := numsB_len _ hpre
  by_cases hka : k < l.length
  · by_cases hf : fits (l.getD k 0) = true
    · obtain ⟨m, hm, hm'⟩ := fits_nat hf
      have hnext : (UInt8.ofNat l.length :: numsB (l.take k)) ++ numB m = UInt8.ofNat l.length :: numsB (l.take (k + 1)) := by
        rw [numsB_take_succ hka, hm]; simp
      have hB := behind_fn (UInt8.ofNat l.length :: numsB (l.take k)) m hm' (by simp at hlen ⊢; omega)
      rw [hnext] at hB
      rw [hm] at hf
      have nS := And.intro hm hf
      repeat' (first|((with_reducible refine sg ?_);first|with_reducible rfl|((with_reducible refine fitG ?_);first|kernel_rfl|rfl|(simp [fitT,fitF,nS];done))|with_reducible refine andT ?_ ?_|with_reducible exact Nat.beq_refl _|with_reducible exact fitsI_u8 _|((with_reducible refine decide_eq_true ?_);first|omega|(simp only [SZl,nS];omega))|decide|(simp [SZl,slc,allOneD,D.one,allOne,AV.one,nS];done)|(simp [SZl,nS];omega))|((with_reducible refine gWl ?_);first|(refine Wl_isMv rfl ?_;refine Xmv eok rfl rfl rfl rfl ?_)|refine Xq eok rfl rfl rfl rfl ?_ ?_|refine Xn [0,2,3,4,6,9,16,17,18,19,24] rfl ?_|refine XF (fits_fn m) rfl rfl rfl rfl ?_|refine XD [0] (hB) rfl rfl rfl ⟨rfl,trivial⟩ rfl rfl rfl rfl ?_|refine Xw eok rfl rfl rfl rfl ?_ ?_)|refine W_seq ?_|refine W_region ?_|refine W_skip ?_|refine W_ret ?_|refine W_block ?_|refine W_exit ?_|refine W_scope 3 ?_|refine W_goto ?_|refine W_label ?_|refine W_cond_t rfl ?_|refine W_cond_f rfl ?_|(refine W_cond rfl (fun hc => ?_) (fun hc => ?_) <;> (try simp only [HCl] at hc) <;> (try (exfalso;omega))))
      refine ⟨k + 1, ⟨hka, by rw [all_take_succ hka, hpre, hm, hf]; rfl⟩, by omega, Nat.le_refl _, ?_⟩
      exact TSub.cut rfl (by repeat' (first | exact True.intro | refine And.intro (by (first | rfl | ((with_reducible_and_instances refine congrArg (fun z => some (AV.d (D.i _ z))) ?_); omega) | (refine congrArg (fun z => some (AV.d (D.i _ z))) (?_ : (_ : Int) = _); omega) | (refine congrArg some ?_; simp; done))) ?_)) (by repeat' (first | exact True.intro | refine And.intro (Or.inr rfl) ?_ | refine And.intro (Or.inl ⟨rfl, rfl⟩) ?_ | refine And.intro (Or.inr (by simp)) ?_)) (by first | rfl | (simp (decide := true) [heapOk, Blk.ok, AV.oks, AV.ok, hk]; done)) rfl
    · have hf' : fits (l.getD k 0) = false := by simpa using hf
      have hall : l.all fits = false := by
        rw [← List.take_append_drop (k + 1) l, List.all_append, all_take_succ hka, hf']; simp
      have nS := hf'
      repeat' (first|((with_reducible refine sg ?_);first|with_reducible rfl|((with_reducible refine fitG ?_);first|kernel_rfl|rfl|(simp [fitT,fitF,nS];done))|with_reducible refine andT ?_ ?_|with_reducible exact Nat.beq_refl _|with_reducible exact fitsI_u8 _|((with_reducible refine decide_eq_true ?_);first|omega|(simp only [SZl,nS];omega))|decide|(simp [SZl,slc,allOneD,D.one,allOne,AV.one,nS];done)|(simp [SZl,nS];omega))|((with_reducible refine gWl ?_);first|(refine Wl_isMv rfl ?_;refine Xmv eok rfl rfl rfl rfl ?_)|refine Xq eok rfl rfl rfl rfl ?_ ?_|refine Xn [0,2,3,4,6,9,16,17,18,19,24] rfl ?_|refine XF (fits_fn (l.getD k 0)) rfl rfl rfl rfl ?_|refine Xw eok rfl rfl rfl rfl ?_ ?_)|refine W_seq ?_|refine W_region ?_|refine W_skip ?_|refine W_ret ?_|refine W_block ?_|refine W_exit ?_|refine W_scope 3 ?_|refine W_goto ?_|refine W_label ?_|refine W_cond_t rfl ?_|refine W_cond_f rfl ?_|(refine W_cond rfl (fun hc => ?_) (fun hc => ?_) <;> (try simp only [HCl] at hc) <;> (try (exfalso;omega))))
      refine ⟨_, _, rfl, rfl, ?_⟩; simp [Frz_tup, Frz_ag, Frzs_cons, Frzs_nil, Frz_d, Frz_e0, Frz_sl, sln, isSl, slOk, listS, hl, hall]
  · have e : k = l.length := by omega
    subst e
    rw [List.take_length] at hpre
    have nS := True.intro
    repeat' (first|((with_reducible refine sg ?_);first|with_reducible rfl|((with_reducible refine fitG ?_);first|kernel_rfl|rfl|(simp [fitT,fitF,nS];done))|with_reducible refine andT ?_ ?_|with_reducible exact Nat.beq_refl _|with_reducible exact fitsI_u8 _|((with_reducible refine decide_eq_true ?_);first|omega|(simp only [SZl,nS];omega))|decide|(simp [SZl,slc,allOneD,D.one,allOne,AV.one,nS];done)|(simp [SZl,nS];omega))|((with_reducible refine gWl ?_);first|(refine Wl_isMv rfl ?_;refine Xmv eok rfl rfl rfl rfl ?_)|refine Xq eok rfl rfl rfl rfl ?_ ?_|refine Xn [0,2,3,4,6,9,16,17,18,19,24] rfl ?_|refine Xw eok rfl rfl rfl rfl ?_ ?_)|refine W_seq ?_|refine W_region ?_|refine W_skip ?_|refine W_ret ?_|refine W_block ?_|refine W_exit ?_|refine W_scope 3 ?_|refine W_goto ?_|refine W_label ?_|refine W_cond_t rfl ?_|refine W_cond_f rfl ?_|(refine W_cond rfl (fun hc => ?_) (fun hc => ?_) <;> (try simp only [HCl] at hc) <;> (try (exfalso;omega))))
    refine ⟨_, _, rfl, rfl, ?_⟩; simp [Frz_tup, Frz_ag, Frzs_cons, Frzs_nil, Frz_d, Frz_e0, Frz_sl, sln, isSl, slOk, listS, hl, hpre]

/-- k numbers that are taken one by one. -/
def takesS : Nat → List UInt8 → List Int → List Int × List UInt8 × Int
  | 0, rest, acc => (acc, rest, 0)
  | k + 1, rest, acc => if (takeS rest).2.2 = 0 then takesS k (takeS rest).2.1 (acc ++ [((takeS rest).1 : Int)]) else ([], [], (takeS rest).2.2)
def takeListS : List UInt8 → List Int × List UInt8 × Int
  | [] => ([], [], 11)
  | m :: r => takesS m.toNat r []
def takeL3 (x : List Int × List UInt8 × Int) : D := .tup [.is x.1, .by x.2.1, .i .i64 x.2.2]

set_option maxHeartbeats 4000000 in
theorem TakeList_fn (b : List UInt8) (hb : b.length < 70368744177664) : Go.Gar.Fn Tryz.prog 98 [.by b] (takeL3 (takeListS b)) := by
  refine Fn_of_W eok Tryz.func98 rfl rfl (Nat.le_of_ble_eq_true rfl) ?_
  rcases b with _ | ⟨m, r⟩
  · have nS := True.intro
    repeat' (first|((with_reducible refine sg ?_);first|with_reducible rfl|((with_reducible refine fitG ?_);first|kernel_rfl|rfl|(simp [fitT,fitF,nS];done))|with_reducible refine andT ?_ ?_|with_reducible exact Nat.beq_refl _|with_reducible exact fitsI_u8 _|((with_reducible refine decide_eq_true ?_);first|omega|(simp only [SZl,nS];omega))|decide|(simp [SZl,slc,allOneD,D.one,allOne,AV.one,nS];done)|(simp [SZl,nS];omega))|((with_reducible refine gWl ?_);first|(refine Wl_isMv rfl ?_;refine Xmv eok rfl rfl rfl rfl ?_)|refine Xq eok rfl rfl rfl rfl ?_ ?_|refine Xn [0,2,3,4,5,8,14,15,16,24] rfl ?_|refine Xw eok rfl rfl rfl rfl ?_ ?_)|refine W_seq ?_|refine W_region ?_|refine W_skip ?_|refine W_ret ?_|refine W_block ?_|refine W_exit ?_|refine W_scope 3 ?_|refine W_goto ?_|refine W_label ?_|refine W_cond_t rfl ?_|refine W_cond_f rfl ?_|(refine W_cond rfl (fun hc => ?_) (fun hc => ?_) <;> (try simp only [HCl] at hc) <;> (try (exfalso;omega))))
    refine ⟨_, _, rfl, rfl, ?_⟩; simp [Frz_tup, Frz_ag, Frzs_cons, Frzs_nil, Frz_d, Frz_e0, Frz_sl, sln, isSl, slOk, takeListS, takeL3]
  have hm := m.toNat_lt
  simp only [List.length_cons] at hb
  have nS := True.intro
  repeat' (first|((with_reducible refine sg ?_);first|with_reducible rfl|((with_reducible refine fitG ?_);first|kernel_rfl|rfl|(simp [fitT,fitF,nS];done))|with_reducible refine andT ?_ ?_|with_reducible exact Nat.beq_refl _|with_reducible exact fitsI_u8 _|((with_reducible refine decide_eq_true ?_);first|omega|(simp only [SZl,nS];omega))|decide|(simp [SZl,slc,allOneD,D.one,allOne,AV.one,nS];done)|(simp [SZl,nS];omega))|((with_reducible refine gWl ?_);first|(refine Wl_isMv rfl ?_;refine Xmv eok rfl rfl rfl rfl ?_)|refine Xq eok rfl rfl rfl rfl ?_ ?_|refine Xn [0,2,3,4,5,8,14,15,16,24] rfl ?_|refine Xw eok rfl rfl rfl rfl ?_ ?_)|refine W_seq ?_|refine W_region ?_|refine W_skip ?_|refine W_ret ?_|refine W_block ?_|refine W_exit ?_|refine W_scope 3 ?_|refine W_goto ?_|refine W_label ?_|refine W_cond_t rfl ?_|refine W_cond_f rfl ?_|(refine W_cond rfl (fun hc => ?_) (fun hc => ?_) <;> (try simp only [HCl] at hc) <;> (try (exfalso;omega))))
  refine W_ghost (TSub.e0own 2 (.is []) rfl rfl rfl trivial) (by simp) ?_
  refine W_loopI (α := Nat × List UInt8 × List Int) (fun x => x.1 ≤ m.toNat ∧ x.2.1.length ≤ r.length ∧ x.2.2.length = x.1 ∧ takesS (m.toNat - x.1) x.2.1 x.2.2 = takesS m.toNat r [])
    (fun x => ⟨[(0, .d (.by (m :: r))), (2, .sl 0 x.2.2.length 1), (3, .d (.by x.2.1)), (4, .d (.i .i64 0)), (14, .d (.i .i64 m.toNat)), (15, .d (.i .i64 x.1))], [.a (.is x.2.2)], 34⟩) (fun x => m.toNat - x.1) (0, r, []) ⟨Nat.zero_le _, Nat.le_refl _, rfl, rfl⟩ ?_ (by simp) ?_
  · exact TSub.cut rfl (by repeat' (first | exact True.intro | refine And.intro (by (first | rfl | ((with_reducible_and_instances refine congrArg (fun z => some (AV.d (D.i _ z))) ?_); omega) | (refine congrArg (fun z => some (AV.d (D.i _ z))) (?_ : (_ : Int) = _); omega) | (refine congrArg some ?_; simp; done))) ?_)) (by repeat' (first | exact True.intro | refine And.intro (Or.inr rfl) ?_ | refine And.intro (Or.inl ⟨rfl, rfl⟩) ?_ | refine And.intro (Or.inr (by simp)) ?_)) (by first | rfl | (simp (decide := true) [heapOk, Blk.ok, AV.oks, AV.ok, hk]; done)) rfl
  rintro ⟨k, rest, acc⟩ ⟨hk, hrl, hal, hT⟩
  simp only at hk hrl hal hT
  have hl := takeS_len rest
  have hv := takeS_le rest
  by_cases hkm : k < m.toNat
  · rw [show m.toNat - k = (m.toNat - (k + 1)) + 1 by omega] at hT
    simp only [takesS] at hT
    by_cases he : (takeS rest).2.2 = 0
    · rw [if_pos he] at hT
      have nS := he
      repeat' (first|((with_reducible refine sg ?_);first|with_reducible rfl|((with_reducible refine fitG ?_);first|kernel_rfl|rfl|(simp [fitT,fitF,nS];done))|with_reducible refine andT ?_ ?_|with_reducible exact Nat.beq_refl _|with_reducible exact fitsI_u8 _|((with_reducible refine decide_eq_true ?_);first|omega|(simp only [SZl,nS];omega))|decide|(simp [SZl,slc,allOneD,D.one,allOne,AV.one,nS];done)|(simp [SZl,nS];omega))|((with_reducible refine gWl ?_);first|(refine Wl_isMv rfl ?_;refine Xmv eok rfl rfl rfl rfl ?_)|refine Xq eok rfl rfl rfl rfl ?_ ?_ (hx := by first|(simp only [NSl,NHl,Nat.reduceAdd,Int.reduceAdd,Int.reduceSub,Int.reduceMul,Int.reduceToNat,nS,takeD3];rfl)|rfl)|refine Xn [0,2,3,4,5,8,14,15,16,24] rfl ?_|refine XF (take_fn rest (by omega)) rfl rfl rfl rfl ?_ (hr := by first|(simp only [NSl,NHl,Nat.reduceAdd,Int.reduceAdd,Int.reduceSub,Int.reduceMul,Int.reduceToNat,nS,takeD3];rfl)|rfl)|refine Xw eok rfl rfl rfl rfl ?_ ?_ (hx := by first|(simp only [NSl,NHl,Nat.reduceAdd,Int.reduceAdd,Int.reduceSub,Int.reduceMul,Int.reduceToNat,nS,takeD3];rfl)|rfl))|refine W_seq ?_|refine W_region ?_|refine W_skip ?_|refine W_ret ?_|refine W_block ?_|refine W_exit ?_|refine W_scope 3 ?_|refine W_goto ?_|refine W_label ?_|refine W_cond_t rfl ?_|refine W_cond_f rfl ?_|(refine W_cond rfl (fun hc => ?_) (fun hc => ?_) <;> (try simp only [HCl] at hc) <;> (try (exfalso;omega))))
      refine ⟨(k + 1, (takeS rest).2.1, acc ++ [((takeS rest).1 : Int)]), ⟨hkm, by simp only; omega, by simp; omega, hT⟩, by simp only; omega, by simp, ?_⟩
      exact TSub.cut rfl (by repeat' (first | exact True.intro | refine And.intro (by (first | rfl | ((with_reducible_and_instances refine congrArg (fun z => some (AV.d (D.i _ z))) ?_); omega) | (refine congrArg (fun z => some (AV.d (D.i _ z))) (?_ : (_ : Int) = _); omega) | (refine congrArg some ?_; simp; done))) ?_)) (by repeat' (first | exact True.intro | refine And.intro (Or.inr rfl) ?_ | refine And.intro (Or.inl ⟨rfl, rfl⟩) ?_ | refine And.intro (Or.inr (by simp)) ?_)) (by first | rfl | (simp (decide := true) [heapOk, Blk.ok, AV.oks, AV.ok, hk]; done)) rfl
    · rw [if_neg he] at hT
      have nS := True.intro
      repeat' (first|((with_reducible refine sg ?_);first|with_reducible rfl|((with_reducible refine fitG ?_);first|kernel_rfl|rfl|(simp [fitT,fitF,nS];done))|with_reducible refine andT ?_ ?_|with_reducible exact Nat.beq_refl _|with_reducible exact fitsI_u8 _|((with_reducible refine decide_eq_true ?_);first|omega|(simp only [SZl,nS];omega))|decide|(simp [SZl,slc,allOneD,D.one,allOne,AV.one,nS];done)|(simp [SZl,nS];omega))|((with_reducible refine gWl ?_);first|(refine Wl_isMv rfl ?_;refine Xmv eok rfl rfl rfl rfl ?_)|refine Xq eok rfl rfl rfl rfl ?_ ?_ (hx := by first|(simp only [NSl,NHl,Nat.reduceAdd,Int.reduceAdd,Int.reduceSub,Int.reduceMul,Int.reduceToNat,nS,takeD3];rfl)|rfl)|refine Xn [0,2,3,4,5,8,14,15,16,24] rfl ?_|refine XF (take_fn rest (by omega)) rfl rfl rfl rfl ?_ (hr := by first|(simp only [NSl,NHl,Nat.reduceAdd,Int.reduceAdd,Int.reduceSub,Int.reduceMul,Int.reduceToNat,nS,takeD3];rfl)|rfl)|refine Xw eok rfl rfl rfl rfl ?_ ?_ (hx := by first|(simp only [NSl,NHl,Nat.reduceAdd,Int.reduceAdd,Int.reduceSub,Int.reduceMul,Int.reduceToNat,nS,takeD3];rfl)|rfl))|refine W_seq ?_|refine W_region ?_|refine W_skip ?_|refine W_ret ?_|refine W_block ?_|refine W_exit ?_|refine W_scope 3 ?_|refine W_goto ?_|refine W_label ?_|refine W_cond_t rfl ?_|refine W_cond_f rfl ?_|(refine W_cond rfl (fun hc => ?_) (fun hc => ?_) <;> (try simp only [HCl] at hc) <;> (try (exfalso;omega))))
      have e : takeListS (m :: r) = ([], [], (takeS rest).2.2) := hT.symm
      refine ⟨_, _, rfl, rfl, ?_⟩; simp [Frz_tup, Frz_ag, Frzs_cons, Frzs_nil, Frz_d, Frz_e0, Frz_sl, sln, isSl, slOk, e, takeL3]
  · have e : k = m.toNat := by omega
    subst e
    rw [Nat.sub_self] at hT
    have e : takeListS (m :: r) = (acc, rest, 0) := hT.symm
    have nS := True.intro
    repeat' (first|((with_reducible refine sg ?_);first|with_reducible rfl|((with_reducible refine fitG ?_);first|kernel_rfl|rfl|(simp [fitT,fitF,nS];done))|with_reducible refine andT ?_ ?_|with_reducible exact Nat.beq_refl _|with_reducible exact fitsI_u8 _|((with_reducible refine decide_eq_true ?_);first|omega|(simp only [SZl,nS];omega))|decide|(simp [SZl,slc,allOneD,D.one,allOne,AV.one,nS];done)|(simp [SZl,nS];omega))|((with_reducible refine gWl ?_);first|(refine Wl_isMv rfl ?_;refine Xmv eok rfl rfl rfl rfl ?_)|refine Xq eok rfl rfl rfl rfl ?_ ?_|refine Xn [0,2,3,4,5,8,14,15,16,24] rfl ?_|refine XF (own_fn rest (by omega)) rfl rfl rfl rfl ?_|refine Xw eok rfl rfl rfl rfl ?_ ?_)|refine W_seq ?_|refine W_region ?_|refine W_skip ?_|refine W_ret ?_|refine W_block ?_|refine W_exit ?_|refine W_scope 3 ?_|refine W_goto ?_|refine W_label ?_|refine W_cond_t rfl ?_|refine W_cond_f rfl ?_|(refine W_cond rfl (fun hc => ?_) (fun hc => ?_) <;> (try simp only [HCl] at hc) <;> (try (exfalso;omega))))
    refine ⟨_, _, rfl, rfl, ?_⟩; simp [Frz_tup, Frz_ag, Frzs_cons, Frzs_nil, Frz_d, Frz_e0, Frz_sl, sln, isSl, slOk, e, takeL3]
end Go.Proofs.YtbpemnmpcljbpaaGreat
