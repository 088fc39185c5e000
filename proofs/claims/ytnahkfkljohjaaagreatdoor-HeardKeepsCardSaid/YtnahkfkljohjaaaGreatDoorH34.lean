/- Part 34 of the texts of this proof, put together by a program and made short.
Conditions: none; what each theorem asks stands in its own hypotheses. -/
import Derived.Test.YtnahkfkljohjaaaGreatDoorH25
import Derived.Test.YtnahkfkljohjaaaGreatDoorH30
import Derived.Test.YtnahkfkljohjaaaGreatDoorH33
import Derived.Ground.SlgfProg
import Derived.Lib.SliceRun
import Derived.Shelf.SlicesE.DeleteFunc
import Derived.Sort.Walk0
import Derived.KernelRfl
import Derived.RangeFuncIn
import Derived.OpenShut
import Derived.ProofKit
import Derived.CallsIn
import Derived.RangeFuncLeaves
import Derived.OrdersIn
import Derived.TacticsIn
import Derived.ChangeKeysEq
import Derived.Laws.AppendOwn
import Derived.Laws.OwnMore
import Derived.Laws.MakeOwn
import Derived.Laws.Rows
import Derived.Laws.Cells
import Derived.Laws.Tables
import Derived.Laws.CopyRow
import Derived.Laws.Strings
import Derived.Laws.IdiomStrings
import Derived.Laws.BytesArg
import Derived.Sort.Grow
import Derived.Laws.Cover3
import Derived.RecoverIn
import Derived.Test.YtnahkfkljohjaaaGreatDoorProg
set_option linter.unusedSimpArgs false
set_option linter.unusedVariables false
set_option linter.unnecessarySimpa false
set_option maxHeartbeats 40000000
namespace Go.Proofs.YtnahkfkljohjaaaGreatDoor
namespace Nd
open Go.Gar
open Wi (A8 B0 Ak AX B8 mC)
set_option maxRecDepth 4000
theorem Uf (n : Node) (w : Int) (h5 : w ≠ 5) (h6 : w ≠ 6) (h7 : w ≠ 7) : B4 Tryz.prog 34 [.ptr 0 0 77,.d (.i .u8 w)] [.c (hC n .e0)] (.d .np) [.c (hC n .e0)]:=by
 have f5:=eq_false' h5
 have f6:=eq_false' h6
 have f7:=eq_false' h7
 refine A7 AB Tryz.func34 rfl rfl (Nat.le_of_ble_eq_true rfl) ?_
 refine wk [0,1,4,5,6,11,16] [] (Bo f5 f6 f7) A1 ?_;with_reducible repeat' first|constructor|intro hc;try simp only[A3] at hc
 exact ⟨_,(A2.ck rfl),Nat.le_of_ble_eq_true rfl,_,_,rfl,rfl,rfl,rfl⟩
theorem PF (n : Node) (h : Cs n) (w what place : Int) (x : Item) (h5 : w ≠ 5) (h6 : w ≠ 6) (h7 : w ≠ 7) : Go.Gar.Fn Tryz.prog 12 [n.d,.i .u8 w,.i .u8 what,.i .i64 place,x.d] (.tup [n.d,A9 []]):=by
 have c1:=AY n h
 have c2:=Uf n w h5 h6 h7
 refine A0 AB Tryz.func12 rfl rfl (Nat.le_of_ble_eq_true rfl) ?_
 unfold Node.d Node.cells View.cells Calls.cells Job.cells Item.d Item.cells at *
 unfold hC at c2
 simp only [List.cons_append,List.nil_append] at *
 have d1:=Ds.mk [3] (c2);have sc : No 3:=trivial;refine wd [0,1,2,3,4,5,9,10,11,12,13,14,15,27] [] [(2,4),(3,4)] A1 (AD @c1) ?_;clear sc d1;with_reducible repeat' first|constructor|intro hc;try simp only[A3] at hc
 refine ⟨_,_,rfl,rfl,?_⟩;simp [AE,A6,A5,A4]
end Nd
end Go.Proofs.YtnahkfkljohjaaaGreatDoor
