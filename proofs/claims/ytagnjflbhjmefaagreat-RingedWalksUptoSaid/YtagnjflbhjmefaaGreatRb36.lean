/- Part 36 of the texts of this proof, put together by a program and made short.
Conditions: none; what each theorem asks stands in its own hypotheses. -/
import Derived.Test.YtagnjflbhjmefaaGreatRb34
import Derived.Test.YtagnjflbhjmefaaGreatRb35
import Derived.KernelRfl
import Derived.RangeFuncIn
import Derived.Sort.Grow
import Derived.Laws.Cover3
import Derived.RecoverIn
import Derived.ProofKit
import Derived.OpenShut
import Derived.CallsIn
import Derived.RangeFuncLeaves
import Derived.OrdersIn
import Derived.TacticsIn
import Derived.ChangeKeysEq
import Derived.Laws.AppendOwn
import Derived.Laws.OwnMore
import Derived.Laws.MakeOwn
import Derived.Laws.Rows
import Derived.Laws.Cells
import Derived.Laws.Tables
import Derived.Laws.CopyRow
import Derived.Laws.Strings
import Derived.Laws.IdiomStrings
import Derived.Laws.BytesArg
import Derived.Test.YtagnjflbhjmefaaGreatProg
set_option linter.unusedSimpArgs false
set_option linter.unusedVariables false
set_option linter.unnecessarySimpa false
set_option maxHeartbeats 40000000
namespace Go.Proofs.YtagnjflbhjmefaaGreat
namespace Wi
open Go.Gar
set_option maxRecDepth 4000
def BC (b : List UInt8) : AE × Int:=if (Bf b).2 = 0 then CK (Bf b).1 else (Ab,(Bf b).2)
theorem JL (b : List UInt8) (hb : b.length < 70368744177664) : Go.Gar.Fn Tryz.prog 44 [.by b] (.tup [(BC b).1.d,.i .i64 (BC b).2]):=by
 have hO:=WE b hb
 refine A3 A8 Tryz.func44 rfl rfl (Nat.le_of_ble_eq_true rfl) ?_
 by_cases h : (Bf b).2 = 0
 ·have e : BC b = CK (Bf b).1:=if_pos h
  have hR:=Vx (Bf b).1
  have f:=Bb h
  unfold AE.d AE.cells at *
  have nS:=f;obtain ⟨lv,st,ns,nc⟩:=wq [0,2,3,4,5,12] [];have c1:=@hO;have c2:=@hR;refine wk ?_;clear nc ns st lv c2 c1;repeat' (first|with_reducible constructor|(with_reducible intro hc;try simp only[A1] at hc))
  refine ⟨_,_,rfl,rfl,?_⟩;simp [AH,A6,A5,A4,e]
 ·have e : BC b = (Ab,(Bf b).2):=if_neg h
  have f:=Be h
  unfold AE.d AE.cells
  have nS:=f;obtain ⟨lv,st,ns,nc⟩:=wq [0,2,3,4,5,12] [];have c1:=@hO;refine wk ?_;clear nc ns st lv c1;repeat' (first|with_reducible constructor|(with_reducible intro hc;try simp only[A1] at hc))
  refine ⟨_,_,rfl,rfl,?_⟩;simp [AH,A6,A5,A4,e,Ab,AP]
end Wi
end Go.Proofs.YtagnjflbhjmefaaGreat
