/- Written by a program (pre.py) from the source of the same name. -/
/- Frames: the program's own. -/
import Derived.Test.YtbpemnmpcljbpaaGreatWireG
import Derived.Test.YtbpemnmpcljbpaaGreatFwE
set_option linter.unusedSimpArgs false
set_option linter.unusedVariables false
set_option linter.unnecessarySimpa false
namespace Go.Proofs.YtbpemnmpcljbpaaGreat
namespace Wi
open Go.Gar
set_option maxRecDepth 4000

set_option maxHeartbeats 4000000 in
theorem Close_fn (p : List UInt8) : Go.Gar.Fn Tryz.prog 34 [.by p] (.tup [.by (closeV p).1, .i .i64 (closeV p).2]) := by
  have hz := Size_fn (p.length : Int)
  refine Fn_of_W eok Tryz.func34 rfl rfl (Nat.le_of_ble_eq_true rfl) ?_
  by_cases h : p.length > 112
  · have e : closeV p = ([], 2) := if_pos h
    rw [if_pos (by omega)] at hz
    have nS := True.intro
    repeat' (first|((with_reducible refine sg ?_);first|with_reducible rfl|((with_reducible refine fitG ?_);first|kernel_rfl|rfl|(simp [fitT,fitF,nS];done))|with_reducible refine andT ?_ ?_|with_reducible exact Nat.beq_refl _|with_reducible exact fitsI_u8 _|((with_reducible refine decide_eq_true ?_);first|omega|(simp only [SZl,nS];omega))|decide|(simp [SZl,slc,allOneD,D.one,allOne,AV.one,nS];done)|(simp [SZl,nS];omega))|((with_reducible refine gWl ?_);first|(refine Wl_isMv rfl ?_;refine Xmv eok rfl rfl rfl rfl ?_)|refine Xq eok rfl rfl rfl rfl ?_ ?_|refine Xn [0,2,3,4,5,6,10] rfl ?_|refine XF (hz) rfl rfl rfl rfl ?_|refine Xa eok rfl rfl rfl rfl rfl ?_ ?_|refine Xw eok rfl rfl rfl rfl ?_ ?_)|refine W_seq ?_|refine W_region ?_|refine W_skip ?_|refine W_ret ?_|refine W_block ?_|refine W_exit ?_|refine W_scope 3 ?_|refine W_goto ?_|refine W_label ?_|refine W_cond_t rfl ?_|refine W_cond_f rfl ?_|(refine W_cond rfl (fun hc => ?_) (fun hc => ?_) <;> (try simp only [HCl] at hc) <;> (try (exfalso;omega))))
    refine ⟨_, _, rfl, rfl, ?_⟩; simp [Frz_tup, Frz_ag, Frzs_cons, Frzs_nil, Frz_d, Frz_e0, Frz_sl, sln, isSl, slOk, e]
  · have e : closeV p = (hdr p.length ++ p ++ be4 (sumV (hdr p.length ++ p)), 0) := if_neg h
    rw [if_neg (by omega)] at hz
    have hs := Sum_fn (hdr p.length ++ p) (by simp [hdr]; omega)
    unfold hdr at hs
    have f0 : zeroD (K.int .u8) 1 (Int.toNat 0) [D.i .u8 0] = .by [] := rfl
    have nS := True.intro
    repeat' (first|((with_reducible refine sg ?_);first|with_reducible rfl|((with_reducible refine fitG ?_);first|kernel_rfl|rfl|(simp [fitT,fitF,nS];done))|with_reducible refine andT ?_ ?_|with_reducible exact Nat.beq_refl _|with_reducible exact fitsI_u8 _|((with_reducible refine decide_eq_true ?_);first|omega|(simp only [SZl,nS];omega))|decide|(simp [SZl,slc,allOneD,D.one,allOne,AV.one,nS];done)|(simp [SZl,nS];omega))|((with_reducible refine gWl ?_);first|(refine Wl_isMv rfl ?_;refine Xmv eok rfl rfl rfl rfl ?_)|refine XaoL [13,40] eok rfl rfl rfl rfl rfl rfl ?_ ?_|refine Xq eok rfl rfl rfl rfl ?_ ?_|refine Xn [0,2,3,4,5,6,10] rfl ?_|refine XaB 13 (D.by []) eok rfl rfl rfl (by first|rfl|simp [zeroD]) rfl rfl rfl rfl ?_ ?_|refine XF (hz) rfl rfl rfl rfl ?_|refine Xa eok rfl rfl rfl rfl rfl ?_ ?_|refine Xw eok rfl rfl rfl rfl ?_ ?_)|refine W_seq ?_|refine W_region ?_|(refine XT (Fn.read hs rfl (by simp [Frzs_cons,Frzs_nil,Frz_sl,sln])) rfl rfl rfl rfl ?_)|refine W_skip ?_|refine W_ret ?_|refine W_block ?_|refine W_exit ?_|refine W_scope 3 ?_|refine W_goto ?_|refine W_label ?_|refine W_cond_t rfl ?_|refine W_cond_f rfl ?_|(refine W_cond rfl (fun hc => ?_) (fun hc => ?_) <;> (try simp only [HCl] at hc) <;> (try (exfalso;omega))))
    unfold u32
    have nS := True.intro
    repeat' (first|((with_reducible refine sg ?_);first|with_reducible rfl|((with_reducible refine fitG ?_);first|kernel_rfl|rfl|(simp [fitT,fitF,nS];done))|with_reducible refine andT ?_ ?_|with_reducible exact Nat.beq_refl _|with_reducible exact fitsI_u8 _|((with_reducible refine decide_eq_true ?_);first|omega|(simp only [SZl,nS];omega))|decide|(simp [SZl,slc,allOneD,D.one,allOne,AV.one,nS];done)|(simp [SZl,nS];omega))|((with_reducible refine gWl ?_);first|(refine Wl_isMv rfl ?_;refine Xmv eok rfl rfl rfl rfl ?_)|refine XaoL [13,40] eok rfl rfl rfl rfl rfl rfl ?_ ?_|refine Xq eok rfl rfl rfl rfl ?_ ?_|refine Xn [0,2,3,4,5,6,10] rfl ?_|refine XF (hz) rfl rfl rfl rfl ?_|refine Xa eok rfl rfl rfl rfl rfl ?_ ?_|refine Xw eok rfl rfl rfl rfl ?_ ?_)|refine W_seq ?_|refine W_region ?_|refine W_skip ?_|refine W_ret ?_|refine W_block ?_|refine W_exit ?_|refine W_scope 3 ?_|refine W_goto ?_|refine W_label ?_|refine W_cond_t rfl ?_|refine W_cond_f rfl ?_|(refine W_cond rfl (fun hc => ?_) (fun hc => ?_) <;> (try simp only [HCl] at hc) <;> (try (exfalso;omega))))
    refine ⟨_, _, rfl, rfl, ?_⟩; simp [Frz_tup, Frz_ag, Frzs_cons, Frzs_nil, Frz_d, Frz_e0, Frz_sl, sln, isSl, slOk, e, hdr, be4, fd24, fd16, fd8]
end Wi
end Go.Proofs.YtbpemnmpcljbpaaGreat
