/- Part 37 of the texts of this proof, put together by a program and made short.
Conditions: none; what each theorem asks stands in its own hypotheses. -/
import Derived.Test.YtnahkfkljohjaaaGreatDoorH30
import Derived.Test.YtnahkfkljohjaaaGreatDoorH36
import Derived.Ground.SlgfProg
import Derived.Lib.SliceRun
import Derived.Shelf.SlicesE.DeleteFunc
import Derived.Sort.Walk0
import Derived.KernelRfl
import Derived.RangeFuncIn
import Derived.OpenShut
import Derived.ProofKit
import Derived.CallsIn
import Derived.RangeFuncLeaves
import Derived.OrdersIn
import Derived.TacticsIn
import Derived.ChangeKeysEq
import Derived.Laws.AppendOwn
import Derived.Laws.OwnMore
import Derived.Laws.MakeOwn
import Derived.Laws.Rows
import Derived.Laws.Cells
import Derived.Laws.Tables
import Derived.Laws.CopyRow
import Derived.Laws.Strings
import Derived.Laws.IdiomStrings
import Derived.Laws.BytesArg
import Derived.Sort.Grow
import Derived.Laws.Cover3
import Derived.RecoverIn
import Derived.Test.YtnahkfkljohjaaaGreatDoorProg
set_option linter.unusedSimpArgs false
set_option linter.unusedVariables false
set_option linter.unnecessarySimpa false
set_option maxHeartbeats 40000000
namespace Go.Proofs.YtnahkfkljohjaaaGreatDoor
namespace Nd
open Go.Gar
open Wi (A8 B0 Ak AX B8 mC)
set_option maxRecDepth 4000
abbrev Gy : List Nat:=[0,1,2,3,4,5,9,10,11,12,13,14,15,27]
theorem Ql (n : Node) (h : Cs n) (what place : Int) (x : Item) (hr : AG n = false) : Go.Gar.Fn Tryz.prog 12 [n.d,.i .u8 5,.i .u8 what,.i .i64 place,x.d] (.tup [n.d,A9 []]):=by
 have cO:=AY n h
 have cS:=Es n
 have cR:=AQ n h
 rw [hr] at cR
 refine A0 AB Tryz.func12 rfl rfl (Nat.le_of_ble_eq_true rfl) ?_
 unfold Node.d Node.cells View.cells Calls.cells Job.cells Item.d Item.cells at *
 unfold hC at cS
 have d1:=Ds.mk [3] (cS);have sc : No 3:=trivial;refine wd Gy [] [(2,4),(3,4)] A1 (Ao @cO @cR) ?_;clear sc d1;with_reducible repeat' first|constructor|intro hc;try simp only[A3] at hc
 refine ⟨_,_,rfl,rfl,?_⟩;simp [AE,A6,A5,A4]
theorem Q0 (n : Node) (h : Cs n) (what place : Int) (x : Item) (hr : AG n = true) (hx0 : 0 ≤ n.next) (hx1 : n.next < 16) (hs : x.key.length ≤ 9223372036854775807) (ha : (CE n.view what place x).asks.length ≤ 100000) (hk : (CE n.view what place x).job.item.key.length ≤ 9223372036854775807) : Go.Gar.Fn Tryz.prog 12 [n.d,.i .u8 5,.i .u8 what,.i .i64 place,x.d] (.tup [(AK n 5 false (CE n.view what place x)).1.d,A9 (AK n 5 false (CE n.view what place x)).2]):=by
 have cO:=AY n h
 have cS:=Es n
 have cR:=AQ n h
 rw [hr] at cR
 have cB:=J8 n.view what place x h.vb h.vl hs
 have cG:=HF n 5 false (CE n.view what place x) (by decide) ha hx0 hx1 h.vb h.vl h.kn hk
 generalize AK n 5 false (CE n.view what place x) = r at *
 generalize CE n.view what place x = c at *
 refine A0 AB Tryz.func12 rfl rfl (Nat.le_of_ble_eq_true rfl) ?_
 unfold View.d Job.d at *
 unfold Node.d Node.cells View.cells Calls.cells Job.cells Item.d Item.cells at *
 unfold hC at cS cG
 have d1:=Ds.mk [3] (cS);have d2:=Ds.mk [3] (cG);have sc : No 3:=trivial;refine wd Gy [] [(2,4),(3,4)] A1 (Bo @cO @cR @cB) ?_;clear sc d2 d1;with_reducible repeat' first|constructor|intro hc;try simp only[A3] at hc
 refine ⟨_,_,rfl,rfl,?_⟩;simp [AE,A6,A5,A4]
theorem QK (n : Node) (h : Cs n) (what place : Int) (x : Item) (hr : AG n = false) : Go.Gar.Fn Tryz.prog 12 [n.d,.i .u8 6,.i .u8 what,.i .i64 place,x.d] (.tup [n.d,A9 []]):=by
 have cO:=AY n h
 have cS:=En n
 have cR:=AQ n h
 rw [hr] at cR
 refine A0 AB Tryz.func12 rfl rfl (Nat.le_of_ble_eq_true rfl) ?_
 unfold Node.d Node.cells View.cells Calls.cells Job.cells Item.d Item.cells at *
 unfold hC at cS
 have d1:=Ds.mk [3] (cS);have sc : No 3:=trivial;refine wd Gy [] [(2,4),(3,4)] A1 (Ao @cO @cR) ?_;clear sc d1;with_reducible repeat' first|constructor|intro hc;try simp only[A3] at hc
 refine ⟨_,_,rfl,rfl,?_⟩;simp [AE,A6,A5,A4]
theorem Pq (n : Node) (h : Cs n) (what place : Int) (x : Item) (hr : AG n = true) (hx0 : 0 ≤ n.next) (hx1 : n.next < 16) (hs : x.key.length ≤ 9223372036854775807) (ha : (CE n.view what place x).asks.length ≤ 100000) (hk : (CE n.view what place x).job.item.key.length ≤ 9223372036854775807) : Go.Gar.Fn Tryz.prog 12 [n.d,.i .u8 6,.i .u8 what,.i .i64 place,x.d] (.tup [(AK n 6 false (CE n.view what place x)).1.d,A9 (AK n 6 false (CE n.view what place x)).2]):=by
 have cO:=AY n h
 have cS:=En n
 have cR:=AQ n h
 rw [hr] at cR
 have cB:=J8 n.view what place x h.vb h.vl hs
 have cG:=HF n 6 false (CE n.view what place x) (by decide) ha hx0 hx1 h.vb h.vl h.kn hk
 generalize AK n 6 false (CE n.view what place x) = r at *
 generalize CE n.view what place x = c at *
 refine A0 AB Tryz.func12 rfl rfl (Nat.le_of_ble_eq_true rfl) ?_
 unfold View.d Job.d at *
 unfold Node.d Node.cells View.cells Calls.cells Job.cells Item.d Item.cells at *
 unfold hC at cS cG
 have d1:=Ds.mk [3] (cS);have d2:=Ds.mk [3] (cG);have sc : No 3:=trivial;refine wd Gy [] [(2,4),(3,4)] A1 (Bo @cO @cR @cB) ?_;clear sc d2 d1;with_reducible repeat' first|constructor|intro hc;try simp only[A3] at hc
 refine ⟨_,_,rfl,rfl,?_⟩;simp [AE,A6,A5,A4]
theorem Ps (n : Node) (h : Cs n) (what place : Int) (x : Item) (hr : AG n = false) : Go.Gar.Fn Tryz.prog 12 [n.d,.i .u8 7,.i .u8 what,.i .i64 place,x.d] (.tup [n.d,A9 []]):=by
 have cO:=AY n h
 have cS:=Eh n
 have cR:=AQ n h
 rw [hr] at cR
 refine A0 AB Tryz.func12 rfl rfl (Nat.le_of_ble_eq_true rfl) ?_
 unfold Node.d Node.cells View.cells Calls.cells Job.cells Item.d Item.cells at *
 unfold hC at cS
 have d1:=Ds.mk [3] (cS);have sc : No 3:=trivial;refine wd Gy [] [(2,4),(3,4)] A1 (Ao @cO @cR) ?_;clear sc d1;with_reducible repeat' first|constructor|intro hc;try simp only[A3] at hc
 refine ⟨_,_,rfl,rfl,?_⟩;simp [AE,A6,A5,A4]
theorem Qv (n : Node) (h : Cs n) (what place : Int) (x : Item) (hr : AG n = true) (hx0 : 0 ≤ n.next) (hx1 : n.next < 16) (hs : x.key.length ≤ 9223372036854775807) (ha : (CE n.view what place x).asks.length ≤ 100000) (hk : (CE n.view what place x).job.item.key.length ≤ 9223372036854775807) : Go.Gar.Fn Tryz.prog 12 [n.d,.i .u8 7,.i .u8 what,.i .i64 place,x.d] (.tup [(AK n 7 false (CE n.view what place x)).1.d,A9 (AK n 7 false (CE n.view what place x)).2]):=by
 have cO:=AY n h
 have cS:=Eh n
 have cR:=AQ n h
 rw [hr] at cR
 have cB:=J8 n.view what place x h.vb h.vl hs
 have cG:=HF n 7 false (CE n.view what place x) (by decide) ha hx0 hx1 h.vb h.vl h.kn hk
 generalize AK n 7 false (CE n.view what place x) = r at *
 generalize CE n.view what place x = c at *
 refine A0 AB Tryz.func12 rfl rfl (Nat.le_of_ble_eq_true rfl) ?_
 unfold View.d Job.d at *
 unfold Node.d Node.cells View.cells Calls.cells Job.cells Item.d Item.cells at *
 unfold hC at cS cG
 have d1:=Ds.mk [3] (cS);have d2:=Ds.mk [3] (cG);have sc : No 3:=trivial;refine wd Gy [] [(2,4),(3,4)] A1 (Bo @cO @cR @cB) ?_;clear sc d2 d1;with_reducible repeat' first|constructor|intro hc;try simp only[A3] at hc
 refine ⟨_,_,rfl,rfl,?_⟩;simp [AE,A6,A5,A4]
end Nd
end Go.Proofs.YtnahkfkljohjaaaGreatDoor
