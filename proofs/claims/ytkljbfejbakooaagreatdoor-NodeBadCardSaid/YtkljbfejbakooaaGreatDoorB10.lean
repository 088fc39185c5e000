/- Part 10 of a proof, put together by a program. Conditions: none beyond those that a theorem states. -/
import Derived.Test.YtkljbfejbakooaaGreatDoorB07
import Derived.Test.YtkljbfejbakooaaGreatDoorB09
set_option linter.unusedSimpArgs false
set_option linter.unusedVariables false
set_option linter.unnecessarySimpa false
set_option maxHeartbeats 40000000
namespace Go.Proofs.YtkljbfejbakooaaGreatDoor
namespace Wi
open Go.Gar
set_option maxRecDepth 4000
abbrev Hy : List Nat:=[0,1,4,5,10,14]
abbrev Hz : List Nat:=[0,1,4,5,11,14]
def u32 (s : BitVec 32) : D:=.i .u32 (s.toNat : Int)
theorem wrap_u32 (n : Nat) : IntKind.wrap .u32 (n : Int) = ((BitVec.ofNat 32 n).toNat : Int):=by
 simp [IntKind.wrap,IntKind.bits,IntKind.signed]
theorem eb (s : BitVec 32) : IntKind.wrap .u32 ((s.toNat : Int) * 2 ^ min 1 IntKind.u32.bits) = ((s <<< 1).toNat : Int):=by
 have : (s.toNat : Int) * 2 ^ min 1 IntKind.u32.bits = ((s.toNat * 2 : Nat) : Int):=by simp [IntKind.bits]
 rw [this,wrap_u32];simp [BitVec.toNat_shiftLeft,Nat.shiftLeft_eq]
theorem ofInt32 (s : BitVec 32) : BitVec.ofInt 32 (s.toNat : Int) = s:=by
 apply BitVec.eq_of_toNat_eq;simp
theorem or1 (s : BitVec 32) : BY .or .u32 ((s <<< 1).toNat : Int) 1 = ((s <<< 1 ^^^ 1#32).toNat : Int):=by
 have h : (s <<< 1) ||| 1#32 = s <<< 1 ^^^ 1#32:=by
  apply BitVec.eq_of_getLsbD_eq;intro i hi;simp only [BitVec.getLsbD_or,BitVec.getLsbD_xor,BitVec.getLsbD_shiftLeft,BitVec.getLsbD_one]
  by_cases e : i = 0 <;> simp [e]
 unfold BY;show IntKind.wrap .u32 ((BitVec.ofInt 32 _ ||| BitVec.ofInt 32 1).toNat : Int) = _;rw [ofInt32,show BitVec.ofInt 32 1 = 1#32 from by decide,h,wrap_u32];simp
theorem Zo (s : BitVec 32) : BY .xor .u32 (s.toNat : Int) 1947962583 = ((s ^^^ pat).toNat : Int):=by
 unfold BY;show IntKind.wrap .u32 ((BitVec.ofInt 32 _ ^^^ BitVec.ofInt 32 1947962583).toNat : Int) = _;rw [ofInt32,show BitVec.ofInt 32 1947962583 = pat from by decide,wrap_u32];simp
theorem T7 (s : BitVec 32) (h : s.getLsbD 31 = true) : (s.toNat : Int).fdiv (2 ^ min 31 IntKind.u32.bits) = 1:=by
 have:=BitVec.msb_eq_decide s;rw [BitVec.msb_eq_getLsbD_last,h] at this;have hlt:=s.isLt;simp at this;rw [Int.fdiv_eq_ediv_of_nonneg _ (by decide)];simp [IntKind.bits];omega
theorem T6 (s : BitVec 32) (h : s.getLsbD 31 = false) : (s.toNat : Int).fdiv (2 ^ min 31 IntKind.u32.bits) = 0:=by
 have:=BitVec.msb_eq_decide s;rw [BitVec.msb_eq_getLsbD_last,h] at this;simp at this;rw [Int.fdiv_eq_ediv_of_nonneg _ (by decide)];simp [IntKind.bits];omega
theorem PL (s : BitVec 32) (h : s.getLsbD 31 = true) : ED s true = (s <<< 1 ^^^ 1#32) ^^^ pat:=by unfold ED;rw [h];simp [Vt]
theorem PK (s : BitVec 32) (h : s.getLsbD 31 = true) : ED s false = (s <<< 1) ^^^ pat:=by unfold ED;rw [h];simp [Vt]
theorem PI (s : BitVec 32) (h : s.getLsbD 31 = false) : ED s true = s <<< 1 ^^^ 1#32:=by unfold ED;rw [h];simp [Vt]
theorem PH (s : BitVec 32) (h : s.getLsbD 31 = false) : ED s false = s <<< 1:=by unfold ED;rw [h];simp [Vt]
theorem YO (s : BitVec 32) (b : Bool) : Go.Gar.Fn Tryz.prog 259 [u32 s,.b b] (u32 (ED s b)):=by
 have h1:=eb s;have h2:=or1 s;have h3:=Zo (s <<< 1);have h4:=Zo (s <<< 1 ^^^ 1#32);refine zF A6 Tryz.func259 ?_;cases hs : s.getLsbD 31 <;> cases b
 ·have h5:=T6 s hs;have e:=PH s hs;refine wk Hy [] (L4 h1 h2 h3 h4 h5) A0 ?_;refine ⟨_,_,rfl,rfl,?_⟩;simp [Ab,A9,A4,A3,u32,e]
 ·have h5:=T6 s hs;have e:=PI s hs;refine wk Hy [] (L4 h1 h2 h3 h4 h5) A0 ?_;refine ⟨_,_,rfl,rfl,?_⟩;simp [Ab,A9,A4,A3,u32,e]
 ·have h5:=T7 s hs;have e:=PK s hs;refine wk Hy [] (L4 h1 h2 h3 h4 h5) A0 ?_;refine ⟨_,_,rfl,rfl,?_⟩;simp [Ab,A9,A4,A3,u32,e]
 ·have h5:=T7 s hs;have e:=PL s hs;refine wk Hy [] (L4 h1 h2 h3 h4 h5) A0 ?_;refine ⟨_,_,rfl,rfl,?_⟩;simp [Ab,A9,A4,A3,u32,e]
theorem QM (s : BitVec 32) (b : Bool) : Go.Gar.Fn Tryz.prog 297 [u32 s,.b b] (u32 (ED s b)):=by
 have h1:=eb s;have h2:=or1 s;have h3:=Zo (s <<< 1);have h4:=Zo (s <<< 1 ^^^ 1#32);refine zF A6 Tryz.func297 ?_;cases hs : s.getLsbD 31 <;> cases b
 ·have h5:=T6 s hs;have e:=PH s hs;refine wk Hz [] (L4 h1 h2 h3 h4 h5) A0 ?_;refine ⟨_,_,rfl,rfl,?_⟩;simp [Ab,A9,A4,A3,u32,e]
 ·have h5:=T6 s hs;have e:=PI s hs;refine wk Hz [] (L4 h1 h2 h3 h4 h5) A0 ?_;refine ⟨_,_,rfl,rfl,?_⟩;simp [Ab,A9,A4,A3,u32,e]
 ·have h5:=T7 s hs;have e:=PK s hs;refine wk Hz [] (L4 h1 h2 h3 h4 h5) A0 ?_;refine ⟨_,_,rfl,rfl,?_⟩;simp [Ab,A9,A4,A3,u32,e]
 ·have h5:=T7 s hs;have e:=PL s hs;refine wk Hz [] (L4 h1 h2 h3 h4 h5) A0 ?_;refine ⟨_,_,rfl,rfl,?_⟩;simp [Ab,A9,A4,A3,u32,e]
theorem SP (n : Int) : Go.Gar.Fn Tryz.prog 177 [.i .i64 n] (.i .i64 (if n < 0 ∨ n > 112 then 0 else n + 8)):=by
 refine zF A6 Tryz.func177 ?_
 by_cases h : n < 0 ∨ n > 112
 ·rw [if_pos h];refine wk [0,2,8] [] A0 A0 ?_;with_reducible repeat' first|constructor|intro hc;try simp only[AB] at hc
  all_goals first | (exfalso;omega) | (refine ⟨_,_,rfl,rfl,?_⟩;simp [B9])
 ·rw [if_neg h];refine wk [0,2,8] [] A0 A0 ?_;with_reducible repeat' first|constructor|intro hc;try simp only[AB] at hc
  all_goals first | (exfalso;omega) | (refine ⟨_,_,rfl,rfl,?_⟩;simp [B9] <;> omega)
theorem XR (n : Int) : Go.Gar.Fn Tryz.prog 219 [.i .i64 n] (.i .i64 (if n < 0 ∨ n > 112 then 0 else n + 8)):=by
 refine zF A6 Tryz.func219 ?_
 by_cases h : n < 0 ∨ n > 112
 ·rw [if_pos h];refine wk [0,2,8] [] A0 A0 ?_;with_reducible repeat' first|constructor|intro hc;try simp only[AB] at hc
  all_goals first | (exfalso;omega) | (refine ⟨_,_,rfl,rfl,?_⟩;simp [B9])
 ·rw [if_neg h];refine wk [0,2,8] [] A0 A0 ?_;with_reducible repeat' first|constructor|intro hc;try simp only[AB] at hc
  all_goals first | (exfalso;omega) | (refine ⟨_,_,rfl,rfl,?_⟩;simp [B9] <;> omega)
end Wi
end Go.Proofs.YtkljbfejbakooaaGreatDoor
