/- Part 30 of the texts of this proof, put together by a program and made short.
Conditions: none; what each theorem asks stands in its own hypotheses. -/
import Derived.Test.YtnahkfkljohjaaaGreatDoorH28
import Derived.Test.YtnahkfkljohjaaaGreatDoorH29
import Derived.Sort.Walk0
import Derived.KernelRfl
import Derived.RangeFuncIn
import Derived.OpenShut
import Derived.ProofKit
import Derived.CallsIn
import Derived.RangeFuncLeaves
import Derived.OrdersIn
import Derived.TacticsIn
import Derived.ChangeKeysEq
import Derived.Laws.AppendOwn
import Derived.Laws.OwnMore
import Derived.Laws.MakeOwn
import Derived.Laws.Rows
import Derived.Laws.Cells
import Derived.Laws.Tables
import Derived.Laws.CopyRow
import Derived.Laws.Strings
import Derived.Laws.IdiomStrings
import Derived.Laws.BytesArg
import Derived.Sort.Grow
import Derived.Laws.Cover3
import Derived.RecoverIn
import Derived.Test.YtnahkfkljohjaaaGreatDoorProg
set_option linter.unusedSimpArgs false
set_option linter.unusedVariables false
set_option linter.unnecessarySimpa false
set_option maxHeartbeats 40000000
namespace Go.Proofs.YtnahkfkljohjaaaGreatDoor
namespace Nd
open Go.Gar
open Wi (A8 B0 Ak AX B8 mC)
set_option maxRecDepth 4000
theorem Wt (c : Calls) (hl : ∀ x ∈ c.op,Ab x.msg) (hn : c.op.length ≤ 1048576) : Go.Gar.Fn Tryz.prog 73 [c.d] c.d:=by
 obtain ⟨id,many,l⟩:=c
 have c1:=UD id many l hl hn
 refine A0 AB Tryz.func73 rfl rfl (Nat.le_of_ble_eq_true rfl) ?_
 unfold Calls.d Calls.cells at *
 have d1:=Ds.mk [] (c1);refine wk [0,1,2] [] A1 A1 ?_;clear d1;with_reducible repeat' first|constructor|intro hc;try simp only[A3] at hc
 refine ⟨_,_,rfl,rfl,?_⟩;simp [AE,A6,A5,A4]
theorem AY (n : Node) (h : Cs n) : Go.Gar.Fn Tryz.prog 33 [n.d] n.d:=by
 have c1:=Fw n.view (by have:=h.vb;omega) (by have:=h.vl;omega)
 have c2:=Wt n.calls h.cl h.cn
 have c3:=Po n.seen h.sl h.sn
 have c4:=C5 n.finger h.fl
 have c5:=C5 n.mirror h.ml
 have c6:=C5 n.client h.tl
 have c7:=Rl n.keep h.kn
 refine A0 AB Tryz.func33 rfl rfl (Nat.le_of_ble_eq_true rfl) ?_
 unfold View.d View.cells at c1
 unfold Calls.d Calls.cells at c2
 unfold Job.d Job.cells at c4 c5 c6
 refine wk [0,1,2] [] A1 (Tu @c1 @c2 @c3 @c4 @c5 @c6 @c7) ?_;with_reducible repeat' first|constructor|intro hc;try simp only[A3] at hc
 refine ⟨_,_,rfl,rfl,?_⟩;simp [AE,A6,A5,A4,Node.d,Node.cells,View.cells,Calls.cells,Job.cells]
end Nd
end Go.Proofs.YtnahkfkljohjaaaGreatDoor
