/- Written by a program (pre.py) from the source of the same name. -/
/- Numbers: the document's answers: take, lists. -/
import Derived.Test.YtbpemnmpcljbpaaGreatNum6
set_option linter.unusedSimpArgs false
set_option linter.unusedVariables false
set_option linter.unnecessarySimpa false
namespace Go.Proofs.YtbpemnmpcljbpaaGreat
open Go.Gar
set_option maxRecDepth 4000

set_option maxHeartbeats 4000000 in
theorem rtake_fn (b : List UInt8) (hb : b.length < 70368744177664) : Go.Gar.Fn Tryz.prog 74 [.by b] (takeD3 (takeS b)) := by
  refine Fn_of_W eok Tryz.func74 rfl rfl (Nat.le_of_ble_eq_true rfl) ?_
  rcases b with _ | ⟨m, r⟩
  · have nS := True.intro
    repeat' (first|((with_reducible refine sg ?_);first|with_reducible rfl|((with_reducible refine fitG ?_);first|kernel_rfl|rfl|(simp [fitT,fitF,nS];done))|with_reducible refine andT ?_ ?_|with_reducible exact Nat.beq_refl _|with_reducible exact fitsI_u8 _|((with_reducible refine decide_eq_true ?_);first|omega|(simp only [SZl,nS];omega))|decide|(simp [SZl,slc,allOneD,D.one,allOne,AV.one,nS];done)|(simp [SZl,nS];omega))|((with_reducible refine gWl ?_);first|(refine Wl_isMv rfl ?_;refine Xmv eok rfl rfl rfl rfl ?_)|refine Xq eok rfl rfl rfl rfl ?_ ?_|refine Xn [0,2,3,4,5,6,7,10,16,21,24,46] rfl ?_|refine Xw eok rfl rfl rfl rfl ?_ ?_|refine Xs rfl rfl rfl ?_|(refine Xsplit rfl rfl (fun hc => ?_) (fun hc => ?_) <;> (fail_if_success (with_reducible first|exact tF hc|exact fT hc)) <;> (try simp only [HCl] at hc) <;> (try (exfalso;omega))))|refine W_seq ?_|refine W_region ?_|refine W_skip ?_|refine W_ret ?_|refine W_block ?_|refine W_exit ?_|refine W_cond_t rfl ?_|refine W_cond_f rfl ?_|(refine W_cond rfl (fun hc => ?_) (fun hc => ?_) <;> (try simp only [HCl] at hc) <;> (try (exfalso;omega))))
    refine ⟨_, _, rfl, rfl, ?_⟩; simp [Frz_tup, Frz_ag, Frzs_cons, Frzs_nil, Frz_d, Frz_e0, Frz_sl, sln, isSl, slOk, takeS, takeD3]
  have hm := m.toNat_lt
  simp only [List.length_cons] at hb
  by_cases h6 : m.toNat > 6
  · have nS := True.intro
    repeat' (first|((with_reducible refine sg ?_);first|with_reducible rfl|((with_reducible refine fitG ?_);first|kernel_rfl|rfl|(simp [fitT,fitF,nS];done))|with_reducible refine andT ?_ ?_|with_reducible exact Nat.beq_refl _|with_reducible exact fitsI_u8 _|((with_reducible refine decide_eq_true ?_);first|omega|(simp only [SZl,nS];omega))|decide|(simp [SZl,slc,allOneD,D.one,allOne,AV.one,nS];done)|(simp [SZl,nS];omega))|((with_reducible refine gWl ?_);first|(refine Wl_isMv rfl ?_;refine Xmv eok rfl rfl rfl rfl ?_)|refine Xq eok rfl rfl rfl rfl ?_ ?_|refine Xn [0,2,3,4,5,6,7,10,16,21,24,46] rfl ?_|refine Xw eok rfl rfl rfl rfl ?_ ?_|refine Xs rfl rfl rfl ?_|(refine Xsplit rfl rfl (fun hc => ?_) (fun hc => ?_) <;> (fail_if_success (with_reducible first|exact tF hc|exact fT hc)) <;> (try simp only [HCl] at hc) <;> (try (exfalso;omega))))|refine W_seq ?_|refine W_region ?_|refine W_skip ?_|refine W_ret ?_|refine W_block ?_|refine W_exit ?_|refine W_cond_t rfl ?_|refine W_cond_f rfl ?_|(refine W_cond rfl (fun hc => ?_) (fun hc => ?_) <;> (try simp only [HCl] at hc) <;> (try (exfalso;omega))))
    refine ⟨_, _, rfl, rfl, ?_⟩; simp [Frz_tup, Frz_ag, Frzs_cons, Frzs_nil, Frz_d, Frz_e0, Frz_sl, sln, isSl, slOk, takeS, takeD3, h6]
  by_cases hr : r.length < m.toNat
  · have nS := True.intro
    repeat' (first|((with_reducible refine sg ?_);first|with_reducible rfl|((with_reducible refine fitG ?_);first|kernel_rfl|rfl|(simp [fitT,fitF,nS];done))|with_reducible refine andT ?_ ?_|with_reducible exact Nat.beq_refl _|with_reducible exact fitsI_u8 _|((with_reducible refine decide_eq_true ?_);first|omega|(simp only [SZl,nS];omega))|decide|(simp [SZl,slc,allOneD,D.one,allOne,AV.one,nS];done)|(simp [SZl,nS];omega))|((with_reducible refine gWl ?_);first|(refine Wl_isMv rfl ?_;refine Xmv eok rfl rfl rfl rfl ?_)|refine Xq eok rfl rfl rfl rfl ?_ ?_|refine Xn [0,2,3,4,5,6,7,10,16,21,24,46] rfl ?_|refine Xw eok rfl rfl rfl rfl ?_ ?_|refine Xs rfl rfl rfl ?_|(refine Xsplit rfl rfl (fun hc => ?_) (fun hc => ?_) <;> (fail_if_success (with_reducible first|exact tF hc|exact fT hc)) <;> (try simp only [HCl] at hc) <;> (try (exfalso;omega))))|refine W_seq ?_|refine W_region ?_|refine W_skip ?_|refine W_ret ?_|refine W_block ?_|refine W_exit ?_|refine W_cond_t rfl ?_|refine W_cond_f rfl ?_|(refine W_cond rfl (fun hc => ?_) (fun hc => ?_) <;> (try simp only [HCl] at hc) <;> (try (exfalso;omega))))
    refine ⟨_, _, rfl, rfl, ?_⟩; simp [Frz_tup, Frz_ag, Frzs_cons, Frzs_nil, Frz_d, Frz_e0, Frz_sl, sln, isSl, slOk, takeS, takeD3, h6, hr]
  have hlt : ∀ k, k ≤ m.toNat → valB (r.take k) < 281474976710656 := by
    intro k hk
    have := valB_lt (r.take k)
    have h6' : (r.take k).length ≤ 6 := by simp; omega
    have : 256 ^ (r.take k).length ≤ 256 ^ 6 := Nat.pow_le_pow_right (by decide) h6'
    omega
  have nS := True.intro
  repeat' (first|((with_reducible refine sg ?_);first|with_reducible rfl|((with_reducible refine fitG ?_);first|kernel_rfl|rfl|(simp [fitT,fitF,nS];done))|with_reducible refine andT ?_ ?_|with_reducible exact Nat.beq_refl _|with_reducible exact fitsI_u8 _|((with_reducible refine decide_eq_true ?_);first|omega|(simp only [SZl,nS];omega))|decide|(simp [SZl,slc,allOneD,D.one,allOne,AV.one,nS];done)|(simp [SZl,nS];omega))|((with_reducible refine gWl ?_);first|(refine Wl_isMv rfl ?_;refine Xmv eok rfl rfl rfl rfl ?_)|refine Xq eok rfl rfl rfl rfl ?_ ?_|refine Xn [0,2,3,4,5,6,7,10,16,21,24,46] rfl ?_|refine Xw eok rfl rfl rfl rfl ?_ ?_|refine Xs rfl rfl rfl ?_|(refine Xsplit rfl rfl (fun hc => ?_) (fun hc => ?_) <;> (fail_if_success (with_reducible first|exact tF hc|exact fT hc)) <;> (try simp only [HCl] at hc) <;> (try (exfalso;omega))))|refine W_seq ?_|refine W_region ?_|refine W_skip ?_|refine W_ret ?_|refine W_block ?_|refine W_exit ?_|refine W_cond_t rfl ?_|refine W_cond_f rfl ?_|(refine W_cond rfl (fun hc => ?_) (fun hc => ?_) <;> (try simp only [HCl] at hc) <;> (try (exfalso;omega))))
  refine W_loopI (fun k => k ≤ m.toNat) (fun k : Nat => ⟨[(0, .d (.by (m :: r))), (2, .d (.i .i64 0)), (3, .e0), (4, .d (.i .i64 0)), (5, .d (.i .i64 m.toNat)), (6, .d (.i .i64 (valB (r.take k) : Nat))), (7, .d (.i .i64 ((k + 1 : Nat) : Int)))], [], 54⟩) (fun k => m.toNat - k) 0 (Nat.zero_le _) ?_ (Nat.le_refl _) ?_
  · exact TSub.cut rfl (by repeat' (first | exact True.intro | refine And.intro (by (first | rfl | ((with_reducible_and_instances refine congrArg (fun z => some (AV.d (D.i _ z))) ?_); omega) | (refine congrArg (fun z => some (AV.d (D.i _ z))) (?_ : (_ : Int) = _); omega) | (refine congrArg some ?_; simp; done))) ?_)) (by repeat' (first | exact True.intro | refine And.intro (Or.inr rfl) ?_ | refine And.intro (Or.inl ⟨rfl, rfl⟩) ?_ | refine And.intro (Or.inr (by simp)) ?_)) (by first | rfl | (simp (decide := true) [heapOk, Blk.ok, AV.oks, AV.ok, hk]; done)) rfl
  intro k hk
  have hv := hlt k hk
  by_cases hkm : k < m.toNat
  · have e3 : (valB (r.take k) : Int) * 256 + ((r.getD k 0).toNat : Int) = (valB (r.take (k + 1)) : Nat) := by
      have := valB_step r k (by omega)
      omega
    have hv' := hlt (k + 1) hkm
    have hd := (r.getD k 0).toNat_lt
    have nS := e3
    repeat' (first|((with_reducible refine sg ?_);first|with_reducible rfl|((with_reducible refine fitG ?_);first|kernel_rfl|rfl|(simp [fitT,fitF,nS];done))|with_reducible refine andT ?_ ?_|with_reducible exact Nat.beq_refl _|with_reducible exact fitsI_u8 _|((with_reducible refine decide_eq_true ?_);first|omega|(simp only [SZl,nS];omega))|decide|(simp [SZl,slc,allOneD,D.one,allOne,AV.one,nS];done)|(simp [SZl,nS];omega))|((with_reducible refine gWl ?_);first|(refine Wl_isMv rfl ?_;refine Xmv eok rfl rfl rfl rfl ?_)|refine Xq eok rfl rfl rfl rfl ?_ ?_|refine Xn [0,2,3,4,5,6,7,10,16,21,24,46] rfl ?_|refine Xw eok rfl rfl rfl rfl ?_ ?_|refine Xs rfl rfl rfl ?_|(refine Xsplit rfl rfl (fun hc => ?_) (fun hc => ?_) <;> (fail_if_success (with_reducible first|exact tF hc|exact fT hc)) <;> (try simp only [HCl] at hc) <;> (try (exfalso;omega))))|refine W_seq ?_|refine W_region ?_|refine W_skip ?_|refine W_ret ?_|refine W_block ?_|refine W_exit ?_|refine W_cond_t rfl ?_|refine W_cond_f rfl ?_|(refine W_cond rfl (fun hc => ?_) (fun hc => ?_) <;> (try simp only [HCl] at hc) <;> (try (exfalso;omega))))
    rotate_left
    · rw [e3]; exact andT rfl (fitsI_nat _ (by omega))
    refine ⟨k + 1, hkm, by omega, Nat.le_refl _, ?_⟩
    exact TSub.cut rfl (by repeat' (first | exact True.intro | refine And.intro (by (first | rfl | ((with_reducible_and_instances refine congrArg (fun z => some (AV.d (D.i _ z))) ?_); omega) | (refine congrArg (fun z => some (AV.d (D.i _ z))) (?_ : (_ : Int) = _); omega) | (refine congrArg some ?_; simp; done))) ?_)) (by repeat' (first | exact True.intro | refine And.intro (Or.inr rfl) ?_ | refine And.intro (Or.inl ⟨rfl, rfl⟩) ?_ | refine And.intro (Or.inr (by simp)) ?_)) (by first | rfl | (simp (decide := true) [heapOk, Blk.ok, AV.oks, AV.ok, hk]; done)) rfl
  · have hkm' : k = m.toNat := by omega
    subst hkm'
    by_cases hP : (m.toNat > 0 ∧ r.getD 0 0 = 0) ∨ valB (r.take m.toNat) > 1099511627776
    · have hT : takeS (m :: r) = (0, [], 12) := by simp only [takeS, if_neg h6, if_neg hr, if_pos hP]
      rw [hT]
      have nS := True.intro
      repeat' (first|((with_reducible refine sg ?_);first|with_reducible rfl|((with_reducible refine fitG ?_);first|kernel_rfl|rfl|(simp [fitT,fitF,nS];done))|with_reducible refine andT ?_ ?_|with_reducible exact Nat.beq_refl _|with_reducible exact fitsI_u8 _|((with_reducible refine decide_eq_true ?_);first|omega|(simp only [SZl,nS];omega))|decide|(simp [SZl,slc,allOneD,D.one,allOne,AV.one,nS];done)|(simp [SZl,nS];omega))|((with_reducible refine gWl ?_);first|(refine Wl_isMv rfl ?_;refine Xmv eok rfl rfl rfl rfl ?_)|refine Xq eok rfl rfl rfl rfl ?_ ?_|refine Xn [0,2,3,4,5,6,7,10,16,21,24,46] rfl ?_|refine Xw eok rfl rfl rfl rfl ?_ ?_|refine Xs rfl rfl rfl ?_|(refine Xsplit rfl rfl (fun hc => ?_) (fun hc => ?_) <;> (fail_if_success (with_reducible first|exact tF hc|exact fT hc)) <;> (try simp only [HCl] at hc) <;> (try (exfalso;omega))))|refine W_seq ?_|refine W_region ?_|refine W_skip ?_|refine W_ret ?_|refine W_block ?_|refine W_exit ?_|refine W_cond_t rfl ?_|refine W_cond_f rfl ?_|(refine W_cond rfl (fun hc => ?_) (fun hc => ?_) <;> (try simp only [HCl] at hc) <;> (try (exfalso;omega))))
      all_goals first
        | (refine ⟨_, _, rfl, rfl, ?_⟩; simp [Frz_tup, Frz_ag, Frzs_cons, Frzs_nil, Frz_d, Frz_e0, Frz_sl, sln, isSl, slOk, takeD3]; done)
        | (exfalso; rcases hP with ⟨h, h'⟩ | h <;> first | omega | (have h' := congrArg UInt8.toNat h'; simp only [UInt8.toNat_zero] at h'; omega))
    · have hT : takeS (m :: r) = (valB (r.take m.toNat), r.drop m.toNat, 0) := by simp only [takeS, if_neg h6, if_neg hr, if_neg hP]
      rw [hT]
      have e5 : (1 + (m.toNat : Int)).toNat = m.toNat + 1 := by omega
      have nS := e5
      repeat' (first|((with_reducible refine sg ?_);first|with_reducible rfl|((with_reducible refine fitG ?_);first|kernel_rfl|rfl|(simp [fitT,fitF,nS];done))|with_reducible refine andT ?_ ?_|with_reducible exact Nat.beq_refl _|with_reducible exact fitsI_u8 _|((with_reducible refine decide_eq_true ?_);first|omega|(simp only [SZl,nS];omega))|decide|(simp [SZl,slc,allOneD,D.one,allOne,AV.one,nS];done)|(simp [SZl,nS];omega))|((with_reducible refine gWl ?_);first|(refine Wl_isMv rfl ?_;refine Xmv eok rfl rfl rfl rfl ?_)|refine Xq eok rfl rfl rfl rfl ?_ ?_|refine Xn [0,2,3,4,5,6,7,10,16,21,24,46] rfl ?_|refine Xw eok rfl rfl rfl rfl ?_ ?_|refine Xs rfl rfl rfl ?_|(refine Xsplit rfl rfl (fun hc => ?_) (fun hc => ?_) <;> (fail_if_success (with_reducible first|exact tF hc|exact fT hc)) <;> (try simp only [HCl] at hc) <;> (try (exfalso;omega))))|refine W_seq ?_|refine W_region ?_|refine W_skip ?_|refine W_ret ?_|refine W_block ?_|refine W_exit ?_|refine W_cond_t rfl ?_|refine W_cond_f rfl ?_|(refine W_cond rfl (fun hc => ?_) (fun hc => ?_) <;> (try simp only [HCl] at hc) <;> (try (exfalso;omega))))
      all_goals first
        | (refine ⟨_, _, rfl, rfl, ?_⟩; simp [Frz_tup, Frz_ag, Frzs_cons, Frzs_nil, Frz_d, Frz_e0, Frz_sl, sln, isSl, slOk, takeD3]; done)
        | (exfalso; exact hP (.inl ⟨by omega, u8z (by omega)⟩))
        | (exfalso; exact hP (.inr (by omega)))

set_option maxHeartbeats 4000000 in
theorem rlist_fn (l : List Int) : Go.Gar.Fn Tryz.prog 28 [.is l] (.tup [.by (listS l).1, .i .i64 (listS l).2]) := by
  refine Fn_of_W eok Tryz.func28 rfl rfl (Nat.le_of_ble_eq_true rfl) ?_
  by_cases hl : l.length > 255
  · have nS := True.intro
    repeat' (first|((with_reducible refine sg ?_);first|with_reducible rfl|((with_reducible refine fitG ?_);first|kernel_rfl|rfl|(simp [fitT,fitF,nS];done))|with_reducible refine andT ?_ ?_|with_reducible exact Nat.beq_refl _|with_reducible exact fitsI_u8 _|((with_reducible refine decide_eq_true ?_);first|omega|(simp only [SZl,nS];omega))|decide|(simp [SZl,slc,allOneD,D.one,allOne,AV.one,nS];done)|(simp [SZl,nS];omega))|((with_reducible refine gWl ?_);first|(refine Wl_isMv rfl ?_;refine Xmv eok rfl rfl rfl rfl ?_)|refine Xq eok rfl rfl rfl rfl ?_ ?_|refine Xn [0,2,3,4,5,6,7,10,18,30] rfl ?_|refine Xw eok rfl rfl rfl rfl ?_ ?_)|refine W_seq ?_|refine W_region ?_|refine W_skip ?_|refine W_ret ?_|refine W_block ?_|refine W_exit ?_|refine W_cond_t rfl ?_|refine W_cond_f rfl ?_|(refine W_cond rfl (fun hc => ?_) (fun hc => ?_) <;> (try simp only [HCl] at hc) <;> (try (exfalso;omega))))
    refine ⟨_, _, rfl, rfl, ?_⟩; simp [Frz_tup, Frz_ag, Frzs_cons, Frzs_nil, Frz_d, Frz_e0, Frz_sl, sln, isSl, slOk, listS, hl]
  have h1 : (l.length : Int) % 256 = l.length := by omega
  have nS := h1
  repeat' (first|((with_reducible refine sg ?_);first|with_reducible rfl|((with_reducible refine fitG ?_);first|kernel_rfl|rfl|(simp [fitT,fitF,nS];done))|with_reducible refine andT ?_ ?_|with_reducible exact Nat.beq_refl _|with_reducible exact fitsI_u8 _|((with_reducible refine decide_eq_true ?_);first|omega|(simp only [SZl,nS];omega))|decide|(simp [SZl,slc,allOneD,D.one,allOne,AV.one,nS];done)|(simp [SZl,nS];omega))|((with_reducible refine gWl ?_);first|(refine Wl_isMv rfl ?_;refine Xmv eok rfl rfl rfl rfl ?_)|refine XaoL [14] eok rfl rfl rfl rfl rfl rfl ?_ ?_|refine Xq eok rfl rfl rfl rfl ?_ ?_|refine Xn [0,2,3,4,5,6,7,10,18,30] rfl ?_|refine Xw eok rfl rfl rfl rfl ?_ ?_)|refine W_seq ?_|refine W_region ?_|refine W_skip ?_|refine W_ret ?_|refine W_block ?_|refine W_exit ?_|refine W_cond_t rfl ?_|refine W_cond_f rfl ?_|(refine W_cond rfl (fun hc => ?_) (fun hc => ?_) <;> (try simp only [HCl] at hc) <;> (try (exfalso;omega))))
  refine W_loopI (fun k => k ≤ l.length ∧ (l.take k).all fits = true) (fun k : Nat => ⟨[(0, .d (.is l)), (2, .e0), (3, .d (.i .i64 0)), (4, .sl 0 (UInt8.ofNat l.length :: numsB (l.take k)).length 1), (5, .d (.i .i64 k))], [.a (.by (UInt8.ofNat l.length :: numsB (l.take k)))], 36⟩) (fun k => l.length - k) 0 ⟨Nat.zero_le _, by simp⟩ ?_ (Nat.le_refl _) ?_
  · exact TSub.cut rfl (by repeat' (first | exact True.intro | refine And.intro (by (first | rfl | ((with_reducible_and_instances refine congrArg (fun z => some (AV.d (D.i _ z))) ?_); omega) | (refine congrArg (fun z => some (AV.d (D.i _ z))) (?_ : (_ : Int) = _); omega) | (refine congrArg some ?_; simp; done))) ?_)) (by repeat' (first | exact True.intro | refine And.intro (Or.inr rfl) ?_ | refine And.intro (Or.inl ⟨rfl, rfl⟩) ?_ | refine And.intro (Or.inr (by simp)) ?_)) (by first | rfl | (simp (decide := true) [heapOk, Blk.ok, AV.oks, AV.ok, hk]; done)) rfl
  rintro k ⟨hk, hpre⟩
  have hlen := numsB_len _ hpre
  have htl : (l.take k).length ≤ k := List.length_take_le _ _
  by_cases hka : k < l.length
  · by_cases hf : fits (l.getD k 0) = true
    · obtain ⟨m, hm, hm'⟩ := fits_nat hf
      have hnext : (UInt8.ofNat l.length :: numsB (l.take k)) ++ numB m = UInt8.ofNat l.length :: numsB (l.take (k + 1)) := by
        rw [numsB_take_succ hka, hm]; simp
      have hnext' : numsB (l.take k) ++ numB m = numsB (l.take (k + 1)) := by
        rw [numsB_take_succ hka, hm]; simp
      have hnl := numB_len m hm'
      have hput : putS (m : Int) = (numB m, 0) := by rw [hm] at hf; simp [putS, hf]
      rw [hm] at hf
      have nS := And.intro hm (And.intro hput hnext')
      repeat' (first|((with_reducible refine sg ?_);first|with_reducible rfl|((with_reducible refine fitG ?_);first|kernel_rfl|rfl|(simp [fitT,fitF,nS];done))|with_reducible refine andT ?_ ?_|with_reducible exact Nat.beq_refl _|with_reducible exact fitsI_u8 _|((with_reducible refine decide_eq_true ?_);first|omega|(simp only [SZl,nS];omega))|decide|(simp [SZl,slc,allOneD,D.one,allOne,AV.one,nS];done)|(simp [SZl,nS];omega))|((with_reducible refine gWl ?_);first|(refine Wl_isMv rfl ?_;refine Xmv eok rfl rfl rfl rfl ?_)|refine Xq eok rfl rfl rfl rfl ?_ ?_|refine Xn [0,2,3,4,5,6,7,10,18,30] rfl ?_|refine XF (rput_fn m) rfl rfl rfl rfl ?_|refine Xw eok rfl rfl rfl rfl ?_ ?_)|refine W_seq ?_|refine W_region ?_|refine W_skip ?_|refine W_ret ?_|refine W_block ?_|refine W_exit ?_|refine W_cond_t rfl ?_|refine W_cond_f rfl ?_|(refine W_cond rfl (fun hc => ?_) (fun hc => ?_) <;> (try simp only [HCl] at hc) <;> (try (exfalso;omega))))
      refine ⟨k + 1, ⟨hka, by rw [all_take_succ hka, hpre, hm, hf]; rfl⟩, by omega, Nat.le_refl _, ?_⟩
      exact TSub.cut rfl (by repeat' (first | exact True.intro | refine And.intro (by (first | rfl | ((with_reducible_and_instances refine congrArg (fun z => some (AV.d (D.i _ z))) ?_); omega) | (refine congrArg (fun z => some (AV.d (D.i _ z))) (?_ : (_ : Int) = _); omega) | (refine congrArg some ?_; simp only [List.cons_append, hnext']; done) | (refine congrArg some ?_; simp [List.cons_append, hnext']; done))) ?_)) (by repeat' (first | exact True.intro | refine And.intro (Or.inr rfl) ?_ | refine And.intro (Or.inl ⟨rfl, rfl⟩) ?_ | refine And.intro (Or.inr (by simp only [List.cons_append, hnext'])) ?_ | refine And.intro (Or.inr (by simp [List.cons_append, hnext'])) ?_)) (by first | rfl | (simp (decide := true) [heapOk, Blk.ok, AV.oks, AV.ok, hk]; done)) rfl
    · have hf' : fits (l.getD k 0) = false := by simpa using hf
      have hall : l.all fits = false := by
        rw [← List.take_append_drop (k + 1) l, List.all_append, all_take_succ hka, hf']; simp
      have hput : putS (l.getD k 0) = ([], 2) := by unfold putS; rw [if_neg hf]
      have nS := hput
      repeat' (first|((with_reducible refine sg ?_);first|with_reducible rfl|((with_reducible refine fitG ?_);first|kernel_rfl|rfl|(simp [fitT,fitF,nS];done))|with_reducible refine andT ?_ ?_|with_reducible exact Nat.beq_refl _|with_reducible exact fitsI_u8 _|((with_reducible refine decide_eq_true ?_);first|omega|(simp only [SZl,nS];omega))|decide|(simp [SZl,slc,allOneD,D.one,allOne,AV.one,nS];done)|(simp [SZl,nS];omega))|((with_reducible refine gWl ?_);first|(refine Wl_isMv rfl ?_;refine Xmv eok rfl rfl rfl rfl ?_)|refine Xq eok rfl rfl rfl rfl ?_ ?_|refine Xn [0,2,3,4,5,6,7,10,18,30] rfl ?_|refine XF (rput_fn (l.getD k 0)) rfl rfl rfl rfl ?_|refine Xw eok rfl rfl rfl rfl ?_ ?_)|refine W_seq ?_|refine W_region ?_|refine W_skip ?_|refine W_ret ?_|refine W_block ?_|refine W_exit ?_|refine W_cond_t rfl ?_|refine W_cond_f rfl ?_|(refine W_cond rfl (fun hc => ?_) (fun hc => ?_) <;> (try simp only [HCl] at hc) <;> (try (exfalso;omega))))
      refine ⟨_, _, rfl, rfl, ?_⟩; simp [Frz_tup, Frz_ag, Frzs_cons, Frzs_nil, Frz_d, Frz_e0, Frz_sl, sln, isSl, slOk, listS, hl, hall]
  · have e : k = l.length := by omega
    subst e
    rw [List.take_length] at hpre
    have nS := True.intro
    repeat' (first|((with_reducible refine sg ?_);first|with_reducible rfl|((with_reducible refine fitG ?_);first|kernel_rfl|rfl|(simp [fitT,fitF,nS];done))|with_reducible refine andT ?_ ?_|with_reducible exact Nat.beq_refl _|with_reducible exact fitsI_u8 _|((with_reducible refine decide_eq_true ?_);first|omega|(simp only [SZl,nS];omega))|decide|(simp [SZl,slc,allOneD,D.one,allOne,AV.one,nS];done)|(simp [SZl,nS];omega))|((with_reducible refine gWl ?_);first|(refine Wl_isMv rfl ?_;refine Xmv eok rfl rfl rfl rfl ?_)|refine Xq eok rfl rfl rfl rfl ?_ ?_|refine Xn [0,2,3,4,5,6,7,10,18,30] rfl ?_|refine Xw eok rfl rfl rfl rfl ?_ ?_)|refine W_seq ?_|refine W_region ?_|refine W_skip ?_|refine W_ret ?_|refine W_block ?_|refine W_exit ?_|refine W_cond_t rfl ?_|refine W_cond_f rfl ?_|(refine W_cond rfl (fun hc => ?_) (fun hc => ?_) <;> (try simp only [HCl] at hc) <;> (try (exfalso;omega))))
    refine ⟨_, _, rfl, rfl, ?_⟩; simp [Frz_tup, Frz_ag, Frzs_cons, Frzs_nil, Frz_d, Frz_e0, Frz_sl, sln, isSl, slOk, listS, hl, hpre]

set_option maxHeartbeats 4000000 in
theorem rTakeList_fn (b : List UInt8) (hb : b.length < 70368744177664) : Go.Gar.Fn Tryz.prog 75 [.by b] (takeL3 (takeListS b)) := by
  refine Fn_of_W eok Tryz.func75 rfl rfl (Nat.le_of_ble_eq_true rfl) ?_
  rcases b with _ | ⟨m, r⟩
  · have nS := True.intro
    repeat' (first|((with_reducible refine sg ?_);first|with_reducible rfl|((with_reducible refine fitG ?_);first|kernel_rfl|rfl|(simp [fitT,fitF,nS];done))|with_reducible refine andT ?_ ?_|with_reducible exact Nat.beq_refl _|with_reducible exact fitsI_u8 _|((with_reducible refine decide_eq_true ?_);first|omega|(simp only [SZl,nS];omega))|decide|(simp [SZl,slc,allOneD,D.one,allOne,AV.one,nS];done)|(simp [SZl,nS];omega))|((with_reducible refine gWl ?_);first|(refine Wl_isMv rfl ?_;refine Xmv eok rfl rfl rfl rfl ?_)|refine Xq eok rfl rfl rfl rfl ?_ ?_|refine Xn [0,2,3,4,5,6,7,8,9,10,13,21,31] rfl ?_|refine Xw eok rfl rfl rfl rfl ?_ ?_)|refine W_seq ?_|refine W_region ?_|refine W_skip ?_|refine W_ret ?_|refine W_block ?_|refine W_exit ?_|refine W_cond_t rfl ?_|refine W_cond_f rfl ?_|(refine W_cond rfl (fun hc => ?_) (fun hc => ?_) <;> (try simp only [HCl] at hc) <;> (try (exfalso;omega))))
    refine ⟨_, _, rfl, rfl, ?_⟩; simp [Frz_tup, Frz_ag, Frzs_cons, Frzs_nil, Frz_d, Frz_e0, Frz_sl, sln, isSl, slOk, takeListS, takeL3]
  have hm := m.toNat_lt
  simp only [List.length_cons] at hb
  have nS := True.intro
  repeat' (first|((with_reducible refine sg ?_);first|with_reducible rfl|((with_reducible refine fitG ?_);first|kernel_rfl|rfl|(simp [fitT,fitF,nS];done))|with_reducible refine andT ?_ ?_|with_reducible exact Nat.beq_refl _|with_reducible exact fitsI_u8 _|((with_reducible refine decide_eq_true ?_);first|omega|(simp only [SZl,nS];omega))|decide|(simp [SZl,slc,allOneD,D.one,allOne,AV.one,nS];done)|(simp [SZl,nS];omega))|((with_reducible refine gWl ?_);first|(refine Wl_isMv rfl ?_;refine Xmv eok rfl rfl rfl rfl ?_)|refine Xq eok rfl rfl rfl rfl ?_ ?_|refine Xn [0,2,3,4,5,6,7,8,9,10,13,21,31] rfl ?_|refine Xw eok rfl rfl rfl rfl ?_ ?_)|refine W_seq ?_|refine W_region ?_|refine W_skip ?_|refine W_ret ?_|refine W_block ?_|refine W_exit ?_|refine W_cond_t rfl ?_|refine W_cond_f rfl ?_|(refine W_cond rfl (fun hc => ?_) (fun hc => ?_) <;> (try simp only [HCl] at hc) <;> (try (exfalso;omega))))
  refine W_ghost (TSub.e0own 5 (.is []) rfl rfl rfl trivial) (by simp) ?_
  refine W_loopI (α := Nat × List UInt8 × List Int) (fun x => x.1 ≤ m.toNat ∧ x.2.1.length ≤ r.length ∧ x.2.2.length = x.1 ∧ takesS (m.toNat - x.1) x.2.1 x.2.2 = takesS m.toNat r [])
    (fun x => ⟨[(0, .d (.by (m :: r))), (2, .e0), (3, .e0), (5, .sl 0 x.2.2.length 1), (6, .d (.by x.2.1)), (4, .d (.i .i64 0)), (7, .d (.i .i64 x.1))], [.a (.is x.2.2)], 42⟩) (fun x => m.toNat - x.1) (0, r, []) ⟨Nat.zero_le _, Nat.le_refl _, rfl, rfl⟩ ?_ (by simp) ?_
  · exact TSub.cut rfl (by repeat' (first | exact True.intro | refine And.intro (by (first | rfl | ((with_reducible_and_instances refine congrArg (fun z => some (AV.d (D.i _ z))) ?_); omega) | (refine congrArg (fun z => some (AV.d (D.i _ z))) (?_ : (_ : Int) = _); omega) | (refine congrArg some ?_; simp; done))) ?_)) (by repeat' (first | exact True.intro | refine And.intro (Or.inr rfl) ?_ | refine And.intro (Or.inl ⟨rfl, rfl⟩) ?_ | refine And.intro (Or.inr (by simp)) ?_)) (by first | rfl | (simp (decide := true) [heapOk, Blk.ok, AV.oks, AV.ok, hk]; done)) rfl
  rintro ⟨k, rest, acc⟩ ⟨hk, hrl, hal, hT⟩
  simp only at hk hrl hal hT
  have hl := takeS_len rest
  have hv := takeS_le rest
  by_cases hkm : k < m.toNat
  · rw [show m.toNat - k = (m.toNat - (k + 1)) + 1 by omega] at hT
    simp only [takesS] at hT
    by_cases he : (takeS rest).2.2 = 0
    · rw [if_pos he] at hT
      have nS := he
      repeat' (first|((with_reducible refine sg ?_);first|with_reducible rfl|((with_reducible refine fitG ?_);first|kernel_rfl|rfl|(simp [fitT,fitF,nS];done))|with_reducible refine andT ?_ ?_|with_reducible exact Nat.beq_refl _|with_reducible exact fitsI_u8 _|((with_reducible refine decide_eq_true ?_);first|omega|(simp only [SZl,nS];omega))|decide|(simp [SZl,slc,allOneD,D.one,allOne,AV.one,nS];done)|(simp [SZl,nS];omega))|((with_reducible refine gWl ?_);first|(refine Wl_isMv rfl ?_;refine Xmv eok rfl rfl rfl rfl ?_)|refine Xq eok rfl rfl rfl rfl ?_ ?_ (hx := by first|(simp only [NSl,NHl,Nat.reduceAdd,Int.reduceAdd,Int.reduceSub,Int.reduceMul,Int.reduceToNat,nS,takeD3];rfl)|rfl)|refine Xn [0,2,3,4,5,6,7,8,9,10,13,21,31] rfl ?_|refine XF (rtake_fn rest (by omega)) rfl rfl rfl rfl ?_ (hr := by first|(simp only [NSl,NHl,Nat.reduceAdd,Int.reduceAdd,Int.reduceSub,Int.reduceMul,Int.reduceToNat,nS,takeD3];rfl)|rfl)|refine Xw eok rfl rfl rfl rfl ?_ ?_ (hx := by first|(simp only [NSl,NHl,Nat.reduceAdd,Int.reduceAdd,Int.reduceSub,Int.reduceMul,Int.reduceToNat,nS,takeD3];rfl)|rfl))|refine W_seq ?_|refine W_region ?_|refine W_skip ?_|refine W_ret ?_|refine W_block ?_|refine W_exit ?_|refine W_cond_t rfl ?_|refine W_cond_f rfl ?_|(refine W_cond rfl (fun hc => ?_) (fun hc => ?_) <;> (try simp only [HCl] at hc) <;> (try (exfalso;omega))))
      refine ⟨(k + 1, (takeS rest).2.1, acc ++ [((takeS rest).1 : Int)]), ⟨hkm, by simp only; omega, by simp; omega, hT⟩, by simp only; omega, by simp, ?_⟩
      exact TSub.cut rfl (by repeat' (first | exact True.intro | refine And.intro (by (first | rfl | ((with_reducible_and_instances refine congrArg (fun z => some (AV.d (D.i _ z))) ?_); omega) | (refine congrArg (fun z => some (AV.d (D.i _ z))) (?_ : (_ : Int) = _); omega) | (refine congrArg some ?_; simp; done))) ?_)) (by repeat' (first | exact True.intro | refine And.intro (Or.inr rfl) ?_ | refine And.intro (Or.inl ⟨rfl, rfl⟩) ?_ | refine And.intro (Or.inr (by simp)) ?_)) (by first | rfl | (simp (decide := true) [heapOk, Blk.ok, AV.oks, AV.ok, hk]; done)) rfl
    · rw [if_neg he] at hT
      have nS := True.intro
      repeat' (first|((with_reducible refine sg ?_);first|with_reducible rfl|((with_reducible refine fitG ?_);first|kernel_rfl|rfl|(simp [fitT,fitF,nS];done))|with_reducible refine andT ?_ ?_|with_reducible exact Nat.beq_refl _|with_reducible exact fitsI_u8 _|((with_reducible refine decide_eq_true ?_);first|omega|(simp only [SZl,nS];omega))|decide|(simp [SZl,slc,allOneD,D.one,allOne,AV.one,nS];done)|(simp [SZl,nS];omega))|((with_reducible refine gWl ?_);first|(refine Wl_isMv rfl ?_;refine Xmv eok rfl rfl rfl rfl ?_)|refine Xq eok rfl rfl rfl rfl ?_ ?_ (hx := by first|(simp only [NSl,NHl,Nat.reduceAdd,Int.reduceAdd,Int.reduceSub,Int.reduceMul,Int.reduceToNat,nS,takeD3];rfl)|rfl)|refine Xn [0,2,3,4,5,6,7,8,9,10,13,21,31] rfl ?_|refine XF (rtake_fn rest (by omega)) rfl rfl rfl rfl ?_ (hr := by first|(simp only [NSl,NHl,Nat.reduceAdd,Int.reduceAdd,Int.reduceSub,Int.reduceMul,Int.reduceToNat,nS,takeD3];rfl)|rfl)|refine Xw eok rfl rfl rfl rfl ?_ ?_ (hx := by first|(simp only [NSl,NHl,Nat.reduceAdd,Int.reduceAdd,Int.reduceSub,Int.reduceMul,Int.reduceToNat,nS,takeD3];rfl)|rfl))|refine W_seq ?_|refine W_region ?_|refine W_skip ?_|refine W_ret ?_|refine W_block ?_|refine W_exit ?_|refine W_cond_t rfl ?_|refine W_cond_f rfl ?_|(refine W_cond rfl (fun hc => ?_) (fun hc => ?_) <;> (try simp only [HCl] at hc) <;> (try (exfalso;omega))))
      have e : takeListS (m :: r) = ([], [], (takeS rest).2.2) := hT.symm
      refine ⟨_, _, rfl, rfl, ?_⟩; simp [Frz_tup, Frz_ag, Frzs_cons, Frzs_nil, Frz_d, Frz_e0, Frz_sl, sln, isSl, slOk, e, takeL3]
  · have e : k = m.toNat := by omega
    subst e
    rw [Nat.sub_self] at hT
    have e : takeListS (m :: r) = (acc, rest, 0) := hT.symm
    have nS := True.intro
    repeat' (first|((with_reducible refine sg ?_);first|with_reducible rfl|((with_reducible refine fitG ?_);first|kernel_rfl|rfl|(simp [fitT,fitF,nS];done))|with_reducible refine andT ?_ ?_|with_reducible exact Nat.beq_refl _|with_reducible exact fitsI_u8 _|((with_reducible refine decide_eq_true ?_);first|omega|(simp only [SZl,nS];omega))|decide|(simp [SZl,slc,allOneD,D.one,allOne,AV.one,nS];done)|(simp [SZl,nS];omega))|((with_reducible refine gWl ?_);first|(refine Wl_isMv rfl ?_;refine Xmv eok rfl rfl rfl rfl ?_)|refine Xq eok rfl rfl rfl rfl ?_ ?_|refine Xn [0,2,3,4,5,6,7,8,9,10,13,21,31] rfl ?_|refine Xw eok rfl rfl rfl rfl ?_ ?_)|refine W_seq ?_|refine W_region ?_|refine W_skip ?_|refine W_ret ?_|refine W_block ?_|refine W_exit ?_|refine W_cond_t rfl ?_|refine W_cond_f rfl ?_|(refine W_cond rfl (fun hc => ?_) (fun hc => ?_) <;> (try simp only [HCl] at hc) <;> (try (exfalso;omega))))
    refine ⟨_, _, rfl, rfl, ?_⟩; simp [Frz_tup, Frz_ag, Frzs_cons, Frzs_nil, Frz_d, Frz_e0, Frz_sl, sln, isSl, slOk, e, takeL3]
end Go.Proofs.YtbpemnmpcljbpaaGreat
