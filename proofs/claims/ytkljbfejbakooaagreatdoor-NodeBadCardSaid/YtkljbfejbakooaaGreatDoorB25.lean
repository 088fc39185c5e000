/- Part 25 of a proof, put together by a program. Conditions: none beyond those that a theorem states. -/
import Derived.Test.YtkljbfejbakooaaGreatDoorB23
import Derived.Test.YtkljbfejbakooaaGreatDoorB24
set_option linter.unusedSimpArgs false
set_option linter.unusedVariables false
set_option linter.unnecessarySimpa false
set_option maxHeartbeats 40000000
namespace Go.Proofs.YtkljbfejbakooaaGreatDoor
namespace Wi
open Go.Gar
set_option maxRecDepth 4000
def Bs (m : A8) : List UInt8 × Int:=if m.right then BH (Ag m) else ([],2)
def Ar (b : List UInt8) : A8 × Int:=if (Bd b).2 = 0 then Ci (Bd b).1 else (AA,(Bd b).2)
theorem TQ {m : A8} (h : m.right = true) : Bs m = ((BH (Ag m)).1,0):=by
 have:=HJ h;unfold Bs;rw [if_pos h,Eo (by omega)]
theorem aU (m : A8) (hl : m.list.length < 9223372036854775807) : Go.Gar.Fn Tryz.prog 123 [m.d] (.tup [.by (Bs m).1,.i .i64 (Bs m).2]):=by
 have hP:=Qf m hl
 cases h : m.right with
 | false =>
  have e : Bs m = ([],2):=by unfold Bs;rw [h];rfl
  have e2 : GT m = ([],2):=by unfold GT;rw [h];rfl
  rw [e2] at hP;unfold A8.d A8.cells at *;refine zF A6 Tryz.func123 ?_;refine wk [0,1,2,3,4,5,12] [] A0 (AG @hP) ?_;refine ⟨_,_,rfl,rfl,?_⟩;simp [Ab,A9,A4,A3,e]
 | true =>
  have e : Bs m = BH (Ag m):=by unfold Bs;rw [h];rfl
  have e2 : GT m = (Ag m,0):=by unfold GT;rw [h];rfl
  have hC:=VI (Ag m);rw [e2] at hP;unfold A8.d A8.cells at *;refine zF A6 Tryz.func123 ?_;refine wk [0,1,2,3,4,5,12] [] A0 (BM @hP @hC) ?_;refine ⟨_,_,rfl,rfl,?_⟩;simp [Ab,A9,A4,A3,e]
theorem HY (b : List UInt8) (hb : b.length < 70368744177664) : Go.Gar.Fn Tryz.prog 43 [.by b] (.tup [(Ar b).1.d,.i .i64 (Ar b).2]):=by
 have hO:=YI b hb;refine zF A6 Tryz.func43 ?_
 by_cases h : (Bd b).2 = 0
 ·have e : Ar b = Ci (Bd b).1:=if_pos h;have hR:=YK (Bd b).1;have f:=C7 h;unfold A8.d A8.cells at *;refine wk [0,2,3,4,5,12] [] (AG f) (BM @hO @hR) ?_;refine ⟨_,_,rfl,rfl,?_⟩;simp [Ab,A9,A4,A3,e]
 ·have e : Ar b = (AA,(Bd b).2):=if_neg h;have f:=C2 h;unfold A8.d A8.cells;refine wk [0,2,3,4,5,12] [] (AG f) (AG @hO) ?_;refine ⟨_,_,rfl,rfl,?_⟩;simp [Ab,A9,A4,A3,e,AA,AF]
theorem Xu {m : A8} (h : m.right = true) : Ar (BH (Ag m)).1 = (m,0):=by
 have:=HJ h;unfold Ar;rw [M2 (by omega)];simp only [if_true,QQ h]
end Wi
end Go.Proofs.YtkljbfejbakooaaGreatDoor
