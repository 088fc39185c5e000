/- Part 47 of the texts of this proof, put together by a program and made short.
Conditions: none; what each theorem asks stands in its own hypotheses. -/
import Derived.Test.YtnahkfkljohjaaaGreatDoorH30
import Derived.Test.YtnahkfkljohjaaaGreatDoorH44
import Derived.Ground.SlgfProg
import Derived.Lib.SliceRun
import Derived.Shelf.SlicesE.DeleteFunc
import Derived.Sort.Walk0
import Derived.KernelRfl
import Derived.RangeFuncIn
import Derived.OpenShut
import Derived.ProofKit
import Derived.CallsIn
import Derived.RangeFuncLeaves
import Derived.OrdersIn
import Derived.TacticsIn
import Derived.ChangeKeysEq
import Derived.Laws.AppendOwn
import Derived.Laws.OwnMore
import Derived.Laws.MakeOwn
import Derived.Laws.Rows
import Derived.Laws.Cells
import Derived.Laws.Tables
import Derived.Laws.CopyRow
import Derived.Laws.Strings
import Derived.Laws.IdiomStrings
import Derived.Laws.BytesArg
import Derived.Sort.Grow
import Derived.Laws.Cover3
import Derived.RecoverIn
import Derived.Test.YtnahkfkljohjaaaGreatDoorProg
set_option linter.unusedSimpArgs false
set_option linter.unusedVariables false
set_option linter.unnecessarySimpa false
set_option maxHeartbeats 40000000
namespace Go.Proofs.YtnahkfkljohjaaaGreatDoor
namespace Nd
open Go.Gar
open Wi (A8 B0 Ak AX B8 mC)
set_option maxRecDepth 4000
abbrev Cj : List Nat:=[0,1,2,4,5,6,7,8,9,29]
theorem bx (n : Node)  (w : Int) (h : Cs n) (hw : HP w [1,2,3,5,6,7] = true) : Go.Gar.Fn Tryz.prog 15 [n.d,.i .u8 w] n.d:=by
 have cO:=AY n h
 have cR:=AQ n h
 have cT:=Bq n
 refine A0 AB Tryz.func15 rfl rfl (Nat.le_of_ble_eq_true rfl) ?_
 unfold Node.d Node.cells View.cells Calls.cells Job.cells at *
 unfold hC Iu GT De at *
 have d1:=Ds.mk [2] (cT);have lk1:=hw;have sc : No 3:=trivial;refine wk Cj [] A1 (AD @cO) ?_;clear sc lk1 d1;with_reducible repeat' first|constructor|intro hc;try simp only[A3] at hc
 refine ⟨_,_,rfl,rfl,?_⟩;simp [AE,A6,A5,A4]
theorem bno1 (n : Node)  (h : Cs n) (hr : AG n = false) : Go.Gar.Fn Tryz.prog 15 [n.d,.i .u8 1] n.d:=by
 have cO:=AY n h
 have cR:=AQ n h
 rw [hr] at cR
 have cT:=Bq n
 refine A0 AB Tryz.func15 rfl rfl (Nat.le_of_ble_eq_true rfl) ?_
 unfold Node.d Node.cells View.cells Calls.cells Job.cells at *
 unfold hC Iu GT De at *
 have d1:=Ds.mk [2] (cT);have sc : No 3:=trivial;refine wk Cj [] A1 (Ao @cO @cR) ?_;clear sc d1;with_reducible repeat' first|constructor|intro hc;try simp only[A3] at hc
 refine ⟨_,_,rfl,rfl,?_⟩;simp [AE,A6,A5,A4]
theorem bno2 (n : Node)  (h : Cs n) (hr : AG n = false) : Go.Gar.Fn Tryz.prog 15 [n.d,.i .u8 2] n.d:=by
 have cO:=AY n h
 have cR:=AQ n h
 rw [hr] at cR
 have cT:=Bq n
 refine A0 AB Tryz.func15 rfl rfl (Nat.le_of_ble_eq_true rfl) ?_
 unfold Node.d Node.cells View.cells Calls.cells Job.cells at *
 unfold hC Iu GT De at *
 have d1:=Ds.mk [2] (cT);have sc : No 3:=trivial;refine wk Cj [] A1 (Ao @cO @cR) ?_;clear sc d1;with_reducible repeat' first|constructor|intro hc;try simp only[A3] at hc
 refine ⟨_,_,rfl,rfl,?_⟩;simp [AE,A6,A5,A4]
theorem bno3 (n : Node)  (h : Cs n) (hr : AG n = false) : Go.Gar.Fn Tryz.prog 15 [n.d,.i .u8 3] n.d:=by
 have cO:=AY n h
 have cR:=AQ n h
 rw [hr] at cR
 have cT:=Bq n
 refine A0 AB Tryz.func15 rfl rfl (Nat.le_of_ble_eq_true rfl) ?_
 unfold Node.d Node.cells View.cells Calls.cells Job.cells at *
 unfold hC Iu GT De at *
 have d1:=Ds.mk [2] (cT);have sc : No 3:=trivial;refine wk Cj [] A1 (Ao @cO @cR) ?_;clear sc d1;with_reducible repeat' first|constructor|intro hc;try simp only[A3] at hc
 refine ⟨_,_,rfl,rfl,?_⟩;simp [AE,A6,A5,A4]
theorem bno5 (n : Node)  (h : Cs n) (hr : AG n = false) : Go.Gar.Fn Tryz.prog 15 [n.d,.i .u8 5] n.d:=by
 have cO:=AY n h
 have cR:=AQ n h
 rw [hr] at cR
 have cT:=Bq n
 refine A0 AB Tryz.func15 rfl rfl (Nat.le_of_ble_eq_true rfl) ?_
 unfold Node.d Node.cells View.cells Calls.cells Job.cells at *
 unfold hC Iu GT De at *
 have d1:=Ds.mk [2] (cT);have sc : No 3:=trivial;refine wk Cj [] A1 (Ao @cO @cR) ?_;clear sc d1;with_reducible repeat' first|constructor|intro hc;try simp only[A3] at hc
 refine ⟨_,_,rfl,rfl,?_⟩;simp [AE,A6,A5,A4]
theorem bno6 (n : Node)  (h : Cs n) (hr : AG n = false) : Go.Gar.Fn Tryz.prog 15 [n.d,.i .u8 6] n.d:=by
 have cO:=AY n h
 have cR:=AQ n h
 rw [hr] at cR
 have cT:=Bq n
 refine A0 AB Tryz.func15 rfl rfl (Nat.le_of_ble_eq_true rfl) ?_
 unfold Node.d Node.cells View.cells Calls.cells Job.cells at *
 unfold hC Iu GT De at *
 have d1:=Ds.mk [2] (cT);have sc : No 3:=trivial;refine wk Cj [] A1 (Ao @cO @cR) ?_;clear sc d1;with_reducible repeat' first|constructor|intro hc;try simp only[A3] at hc
 refine ⟨_,_,rfl,rfl,?_⟩;simp [AE,A6,A5,A4]
theorem bno7 (n : Node)  (h : Cs n) (hr : AG n = false) : Go.Gar.Fn Tryz.prog 15 [n.d,.i .u8 7] n.d:=by
 have cO:=AY n h
 have cR:=AQ n h
 rw [hr] at cR
 have cT:=Bq n
 refine A0 AB Tryz.func15 rfl rfl (Nat.le_of_ble_eq_true rfl) ?_
 unfold Node.d Node.cells View.cells Calls.cells Job.cells at *
 unfold hC Iu GT De at *
 have d1:=Ds.mk [2] (cT);have sc : No 3:=trivial;refine wk Cj [] A1 (Ao @cO @cR) ?_;clear sc d1;with_reducible repeat' first|constructor|intro hc;try simp only[A3] at hc
 refine ⟨_,_,rfl,rfl,?_⟩;simp [AE,A6,A5,A4]
theorem bok1 (n : Node)  (h : Cs n) (hr : AG n = true) : Go.Gar.Fn Tryz.prog 15 [n.d,.i .u8 1] (YQ n).d:=by
 have cO:=AY n h
 have cR:=AQ n h
 rw [hr] at cR
 have cT:=Bq n
 have cE:=MW n
 unfold YQ at *
 refine A0 AB Tryz.func15 rfl rfl (Nat.le_of_ble_eq_true rfl) ?_
 unfold Node.d Node.cells View.cells Calls.cells Job.cells at *
 unfold hC Iu GT De at *
 have d1:=Ds.mk [2] (cT);have d2:=Ds.mk [2] (cE);have sc : No 3:=trivial;refine wk Cj [] A1 (Ao @cO @cR) ?_;clear sc d2 d1;with_reducible repeat' first|constructor|intro hc;try simp only[A3] at hc
 refine ⟨_,_,rfl,rfl,?_⟩;simp [AE,A6,A5,A4]
theorem bok2 (n : Node)  (h : Cs n) (hr : AG n = true) : Go.Gar.Fn Tryz.prog 15 [n.d,.i .u8 2] (YQ n).d:=by
 have cO:=AY n h
 have cR:=AQ n h
 rw [hr] at cR
 have cT:=Bq n
 have cE:=MW n
 unfold YQ at *
 refine A0 AB Tryz.func15 rfl rfl (Nat.le_of_ble_eq_true rfl) ?_
 unfold Node.d Node.cells View.cells Calls.cells Job.cells at *
 unfold hC Iu GT De at *
 have d1:=Ds.mk [2] (cT);have d2:=Ds.mk [2] (cE);have sc : No 3:=trivial;refine wk Cj [] A1 (Ao @cO @cR) ?_;clear sc d2 d1;with_reducible repeat' first|constructor|intro hc;try simp only[A3] at hc
 refine ⟨_,_,rfl,rfl,?_⟩;simp [AE,A6,A5,A4]
theorem bok3 (n : Node)  (h : Cs n) (hr : AG n = true) : Go.Gar.Fn Tryz.prog 15 [n.d,.i .u8 3] (YQ n).d:=by
 have cO:=AY n h
 have cR:=AQ n h
 rw [hr] at cR
 have cT:=Bq n
 have cE:=MW n
 unfold YQ at *
 refine A0 AB Tryz.func15 rfl rfl (Nat.le_of_ble_eq_true rfl) ?_
 unfold Node.d Node.cells View.cells Calls.cells Job.cells at *
 unfold hC Iu GT De at *
 have d1:=Ds.mk [2] (cT);have d2:=Ds.mk [2] (cE);have sc : No 3:=trivial;refine wk Cj [] A1 (Ao @cO @cR) ?_;clear sc d2 d1;with_reducible repeat' first|constructor|intro hc;try simp only[A3] at hc
 refine ⟨_,_,rfl,rfl,?_⟩;simp [AE,A6,A5,A4]
theorem bok5 (n : Node)  (h : Cs n) (hr : AG n = true) (hx0 : 0 ≤ n.next) (hx1 : n.next < 16) (hs : n.finger.item.key.length ≤ 9223372036854775807) : Go.Gar.Fn Tryz.prog 15 [n.d,.i .u8 5] (if n.finger.phase = 5 then n else (AK n 5 false ⟨BG (BH n.finger 100),[],false⟩).1).d:=by
 have cO:=AY n h
 have cR:=AQ n h
 rw [hr] at cR
 have cT:=Bq n
 have cE:=SU n hx0 hx1 h.vb h.vl h.kn hs
 generalize (if n.finger.phase = 5 then n else (AK n 5 false ⟨BG (BH n.finger 100),[],false⟩).1) = r at *
 refine A0 AB Tryz.func15 rfl rfl (Nat.le_of_ble_eq_true rfl) ?_
 unfold Node.d Node.cells View.cells Calls.cells Job.cells at *
 unfold hC Iu GT De at *
 have d1:=Ds.mk [2] (cT);have d2:=Ds.mk [2,3,4,6] (cE);have sc : No 3:=trivial;refine wk Cj [] A1 (Ao @cO @cR) ?_;clear sc d2 d1;with_reducible repeat' first|constructor|intro hc;try simp only[A3] at hc
 refine ⟨_,_,rfl,rfl,?_⟩;simp [AE,A6,A5,A4]
theorem bok6 (n : Node)  (h : Cs n) (hr : AG n = true) (hx0 : 0 ≤ n.next) (hx1 : n.next < 16) (hs : n.mirror.item.key.length ≤ 9223372036854775807) : Go.Gar.Fn Tryz.prog 15 [n.d,.i .u8 6] (if n.mirror.phase = 5 then n else (AK n 6 false ⟨BG (BH n.mirror 100),[],false⟩).1).d:=by
 have cO:=AY n h
 have cR:=AQ n h
 rw [hr] at cR
 have cT:=Bq n
 have cE:=SV n hx0 hx1 h.vb h.vl h.kn hs
 generalize (if n.mirror.phase = 5 then n else (AK n 6 false ⟨BG (BH n.mirror 100),[],false⟩).1) = r at *
 refine A0 AB Tryz.func15 rfl rfl (Nat.le_of_ble_eq_true rfl) ?_
 unfold Node.d Node.cells View.cells Calls.cells Job.cells at *
 unfold hC Iu GT De at *
 have d1:=Ds.mk [2] (cT);have d2:=Ds.mk [2,3,4,7] (cE);have sc : No 3:=trivial;refine wk Cj [] A1 (Ao @cO @cR) ?_;clear sc d2 d1;with_reducible repeat' first|constructor|intro hc;try simp only[A3] at hc
 refine ⟨_,_,rfl,rfl,?_⟩;simp [AE,A6,A5,A4]
theorem bok7 (n : Node)  (h : Cs n) (hr : AG n = true) (hx0 : 0 ≤ n.next) (hx1 : n.next < 16) (hs : n.client.item.key.length ≤ 9223372036854775807) : Go.Gar.Fn Tryz.prog 15 [n.d,.i .u8 7] (if n.client.phase = 5 then n else (AK n 7 false ⟨BG (BH n.client 100),[],false⟩).1).d:=by
 have cO:=AY n h
 have cR:=AQ n h
 rw [hr] at cR
 have cT:=Bq n
 have cE:=SB n hx0 hx1 h.vb h.vl h.kn hs
 generalize (if n.client.phase = 5 then n else (AK n 7 false ⟨BG (BH n.client 100),[],false⟩).1) = r at *
 refine A0 AB Tryz.func15 rfl rfl (Nat.le_of_ble_eq_true rfl) ?_
 unfold Node.d Node.cells View.cells Calls.cells Job.cells at *
 unfold hC Iu GT De at *
 have d1:=Ds.mk [2] (cT);have d2:=Ds.mk [2,3,4,8] (cE);have sc : No 3:=trivial;refine wk Cj [] A1 (Ao @cO @cR) ?_;clear sc d2 d1;with_reducible repeat' first|constructor|intro hc;try simp only[A3] at hc
 refine ⟨_,_,rfl,rfl,?_⟩;simp [AE,A6,A5,A4]
end Nd
end Go.Proofs.YtnahkfkljohjaaaGreatDoor
