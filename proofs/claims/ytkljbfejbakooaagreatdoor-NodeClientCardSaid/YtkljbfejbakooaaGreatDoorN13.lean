/- Part 13 of a proof, put together by a program. Conditions: none beyond those that a theorem states. -/
import Derived.Test.YtkljbfejbakooaaGreatDoorN07
import Derived.Test.YtkljbfejbakooaaGreatDoorN12
set_option linter.unusedSimpArgs false
set_option linter.unusedVariables false
set_option linter.unnecessarySimpa false
set_option maxHeartbeats 40000000
namespace Go.Proofs.YtkljbfejbakooaaGreatDoor
namespace Wi
open Go.Gar
set_option maxRecDepth 4000
abbrev JS : List Nat:=[0,1,4,5,10,14]
abbrev JU : List Nat:=[0,1,4,5,11,14]
def u32 (s : BitVec 32) : D:=.i .u32 (s.toNat : Int)
theorem wrap_u32 (n : Nat) : IntKind.wrap .u32 (n : Int) = ((BitVec.ofNat 32 n).toNat : Int):=by
 simp [IntKind.wrap,IntKind.bits,IntKind.signed]
theorem lF (s : BitVec 32) : IntKind.wrap .u32 ((s.toNat : Int) * 2 ^ min 1 IntKind.u32.bits) = ((s <<< 1).toNat : Int):=by
 have : (s.toNat : Int) * 2 ^ min 1 IntKind.u32.bits = ((s.toNat * 2 : Nat) : Int):=by simp [IntKind.bits]
 rw [this,wrap_u32];simp [BitVec.toNat_shiftLeft,Nat.shiftLeft_eq]
theorem ofInt32 (s : BitVec 32) : BitVec.ofInt 32 (s.toNat : Int) = s:=by
 apply BitVec.eq_of_toNat_eq;simp
theorem or1 (s : BitVec 32) : C2 .or .u32 ((s <<< 1).toNat : Int) 1 = ((s <<< 1 ^^^ 1#32).toNat : Int):=by
 have h : (s <<< 1) ||| 1#32 = s <<< 1 ^^^ 1#32:=by
  apply BitVec.eq_of_getLsbD_eq;intro i hi;simp only [BitVec.getLsbD_or,BitVec.getLsbD_xor,BitVec.getLsbD_shiftLeft,BitVec.getLsbD_one]
  by_cases e : i = 0 <;> simp [e]
 unfold C2;show IntKind.wrap .u32 ((BitVec.ofInt 32 _ ||| BitVec.ofInt 32 1).toNat : Int) = _;rw [ofInt32,show BitVec.ofInt 32 1 = 1#32 from by decide,h,wrap_u32];simp
theorem eb (s : BitVec 32) : C2 .xor .u32 (s.toNat : Int) 1947962583 = ((s ^^^ pat).toNat : Int):=by
 unfold C2;show IntKind.wrap .u32 ((BitVec.ofInt 32 _ ^^^ BitVec.ofInt 32 1947962583).toNat : Int) = _;rw [ofInt32,show BitVec.ofInt 32 1947962583 = pat from by decide,wrap_u32];simp
theorem VU (s : BitVec 32) (h : s.getLsbD 31 = true) : (s.toNat : Int).fdiv (2 ^ min 31 IntKind.u32.bits) = 1:=by
 have:=BitVec.msb_eq_decide s;rw [BitVec.msb_eq_getLsbD_last,h] at this;have hlt:=s.isLt;simp at this;rw [Int.fdiv_eq_ediv_of_nonneg _ (by decide)];simp [IntKind.bits];omega
theorem VT (s : BitVec 32) (h : s.getLsbD 31 = false) : (s.toNat : Int).fdiv (2 ^ min 31 IntKind.u32.bits) = 0:=by
 have:=BitVec.msb_eq_decide s;rw [BitVec.msb_eq_getLsbD_last,h] at this;simp at this;rw [Int.fdiv_eq_ediv_of_nonneg _ (by decide)];simp [IntKind.bits];omega
theorem Rb (s : BitVec 32) (h : s.getLsbD 31 = true) : Eo s true = (s <<< 1 ^^^ 1#32) ^^^ pat:=by unfold Eo;rw [h];simp [Yu]
theorem Ra (s : BitVec 32) (h : s.getLsbD 31 = true) : Eo s false = (s <<< 1) ^^^ pat:=by unfold Eo;rw [h];simp [Yu]
theorem RZ (s : BitVec 32) (h : s.getLsbD 31 = false) : Eo s true = s <<< 1 ^^^ 1#32:=by unfold Eo;rw [h];simp [Yu]
theorem RY (s : BitVec 32) (h : s.getLsbD 31 = false) : Eo s false = s <<< 1:=by unfold Eo;rw [h];simp [Yu]
theorem cM (s : BitVec 32) (b : Bool) : Go.Gar.Fn Tryz.prog 259 [u32 s,.b b] (u32 (Eo s b)):=by
 have h1:=lF s;have h2:=or1 s;have h3:=eb (s <<< 1);have h4:=eb (s <<< 1 ^^^ 1#32);refine zF A6 Tryz.func259 ?_;cases hs : s.getLsbD 31 <;> cases b
 ·have h5:=VT s hs;have e:=RY s hs;refine wk JS [] (R2 h1 h2 h3 h4 h5) A0 ?_;refine ⟨_,_,rfl,rfl,?_⟩;simp [AR,AB,A7,A4,u32,e]
 ·have h5:=VT s hs;have e:=RZ s hs;refine wk JS [] (R2 h1 h2 h3 h4 h5) A0 ?_;refine ⟨_,_,rfl,rfl,?_⟩;simp [AR,AB,A7,A4,u32,e]
 ·have h5:=VU s hs;have e:=Ra s hs;refine wk JS [] (R2 h1 h2 h3 h4 h5) A0 ?_;refine ⟨_,_,rfl,rfl,?_⟩;simp [AR,AB,A7,A4,u32,e]
 ·have h5:=VU s hs;have e:=Rb s hs;refine wk JS [] (R2 h1 h2 h3 h4 h5) A0 ?_;refine ⟨_,_,rfl,rfl,?_⟩;simp [AR,AB,A7,A4,u32,e]
theorem Ss (s : BitVec 32) (b : Bool) : Go.Gar.Fn Tryz.prog 297 [u32 s,.b b] (u32 (Eo s b)):=by
 have h1:=lF s;have h2:=or1 s;have h3:=eb (s <<< 1);have h4:=eb (s <<< 1 ^^^ 1#32);refine zF A6 Tryz.func297 ?_;cases hs : s.getLsbD 31 <;> cases b
 ·have h5:=VT s hs;have e:=RY s hs;refine wk JU [] (R2 h1 h2 h3 h4 h5) A0 ?_;refine ⟨_,_,rfl,rfl,?_⟩;simp [AR,AB,A7,A4,u32,e]
 ·have h5:=VT s hs;have e:=RZ s hs;refine wk JU [] (R2 h1 h2 h3 h4 h5) A0 ?_;refine ⟨_,_,rfl,rfl,?_⟩;simp [AR,AB,A7,A4,u32,e]
 ·have h5:=VU s hs;have e:=Ra s hs;refine wk JU [] (R2 h1 h2 h3 h4 h5) A0 ?_;refine ⟨_,_,rfl,rfl,?_⟩;simp [AR,AB,A7,A4,u32,e]
 ·have h5:=VU s hs;have e:=Rb s hs;refine wk JU [] (R2 h1 h2 h3 h4 h5) A0 ?_;refine ⟨_,_,rfl,rfl,?_⟩;simp [AR,AB,A7,A4,u32,e]
theorem Uq (n : Int) : Go.Gar.Fn Tryz.prog 177 [.i .i64 n] (.i .i64 (if n < 0 ∨ n > 112 then 0 else n + 8)):=by
 refine zF A6 Tryz.func177 ?_
 by_cases h : n < 0 ∨ n > 112
 ·rw [if_pos h];refine wk [0,2,8] [] A0 A0 ?_;with_reducible repeat' first|constructor|intro hc;try simp only[AD] at hc
  all_goals first | (exfalso;omega) | (refine ⟨_,_,rfl,rfl,?_⟩;simp [BN])
 ·rw [if_neg h];refine wk [0,2,8] [] A0 A0 ?_;with_reducible repeat' first|constructor|intro hc;try simp only[AD] at hc
  all_goals first | (exfalso;omega) | (refine ⟨_,_,rfl,rfl,?_⟩;simp [BN] <;> omega)
theorem bF (n : Int) : Go.Gar.Fn Tryz.prog 219 [.i .i64 n] (.i .i64 (if n < 0 ∨ n > 112 then 0 else n + 8)):=by
 refine zF A6 Tryz.func219 ?_
 by_cases h : n < 0 ∨ n > 112
 ·rw [if_pos h];refine wk [0,2,8] [] A0 A0 ?_;with_reducible repeat' first|constructor|intro hc;try simp only[AD] at hc
  all_goals first | (exfalso;omega) | (refine ⟨_,_,rfl,rfl,?_⟩;simp [BN])
 ·rw [if_neg h];refine wk [0,2,8] [] A0 A0 ?_;with_reducible repeat' first|constructor|intro hc;try simp only[AD] at hc
  all_goals first | (exfalso;omega) | (refine ⟨_,_,rfl,rfl,?_⟩;simp [BN] <;> omega)
end Wi
end Go.Proofs.YtkljbfejbakooaaGreatDoor
