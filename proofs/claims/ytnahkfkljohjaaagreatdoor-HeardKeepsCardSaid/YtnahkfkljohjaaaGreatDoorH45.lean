/- Part 45 of the texts of this proof, put together by a program and made short.
Conditions: none; what each theorem asks stands in its own hypotheses. -/
import Derived.Test.YtnahkfkljohjaaaGreatDoorH30
import Derived.Test.YtnahkfkljohjaaaGreatDoorH44
import Derived.Ground.SlgfProg
import Derived.Lib.SliceRun
import Derived.Shelf.SlicesE.DeleteFunc
import Derived.Sort.Walk0
import Derived.KernelRfl
import Derived.RangeFuncIn
import Derived.OpenShut
import Derived.ProofKit
import Derived.CallsIn
import Derived.RangeFuncLeaves
import Derived.OrdersIn
import Derived.TacticsIn
import Derived.ChangeKeysEq
import Derived.Laws.AppendOwn
import Derived.Laws.OwnMore
import Derived.Laws.MakeOwn
import Derived.Laws.Rows
import Derived.Laws.Cells
import Derived.Laws.Tables
import Derived.Laws.CopyRow
import Derived.Laws.Strings
import Derived.Laws.IdiomStrings
import Derived.Laws.BytesArg
import Derived.Sort.Grow
import Derived.Laws.Cover3
import Derived.RecoverIn
import Derived.Test.YtnahkfkljohjaaaGreatDoorProg
set_option linter.unusedSimpArgs false
set_option linter.unusedVariables false
set_option linter.unnecessarySimpa false
set_option maxHeartbeats 40000000
namespace Go.Proofs.YtnahkfkljohjaaaGreatDoor
namespace Nd
open Go.Gar
open Wi (A8 B0 Ak AX B8 mC)
set_option maxRecDepth 4000
abbrev BB : List Nat:=[0,1,2,3,4,5,6,7,8,9,10,11,12,33]
theorem hx (n : Node) (c : Call) (m : A8) (h : Cs n) (hw : HP c.why [1,2,3,5,6,7] = true) : Go.Gar.Fn Tryz.prog 13 [n.d,c.d,m.d] (.tup [n.d,A9 []]):=by
 obtain ⟨cid,msg,why,ref,sent,tries⟩:=c
 dsimp only at hw
 have cO:=AY n h
 have cR:=AQ n h
 have cT:=Bs n m
 refine A0 AB Tryz.func13 rfl rfl (Nat.le_of_ble_eq_true rfl) ?_
 unfold Node.d Node.cells View.cells Calls.cells Job.cells Call.d Call.cells Wi.A8.d Wi.A8.cells at *
 unfold hC Hw GR Da at *
 have d1:=Ds.mk [4,2] (cT);have lk1:=hw;have sc : No 3:=trivial;refine wd BB [5] [(3,2),(4,2)] A1 (AD @cO) ?_;clear sc lk1 d1;with_reducible repeat' first|constructor|intro hc;try simp only[A3] at hc
 have sc : No 3:=trivial;refine wd BB [] [(2,4),(3,4)] A1 A1 ?_;clear sc;with_reducible repeat' first|constructor|intro hc;try simp only[A3] at hc
 refine ⟨_,_,rfl,rfl,?_⟩;simp [AE,A6,A5,A4]
theorem hno1 (n : Node) (c : Call) (m : A8) (h : Cs n) (hw : c.why = 1) (hr : AG n = false) : Go.Gar.Fn Tryz.prog 13 [n.d,c.d,m.d] (.tup [n.d,A9 []]):=by
 obtain ⟨cid,msg,why,ref,sent,tries⟩:=c
 dsimp only at hw
 subst hw
 have cO:=AY n h
 have cR:=AQ n h
 rw [hr] at cR
 have cT:=Bs n m
 refine A0 AB Tryz.func13 rfl rfl (Nat.le_of_ble_eq_true rfl) ?_
 unfold Node.d Node.cells View.cells Calls.cells Job.cells Call.d Call.cells Wi.A8.d Wi.A8.cells at *
 unfold hC Hw GR Da at *
 have d1:=Ds.mk [4,2] (cT);have sc : No 3:=trivial;refine wd BB [5] [(3,2),(4,2)] A1 (AD @cO) ?_;clear sc d1;with_reducible repeat' first|constructor|intro hc;try simp only[A3] at hc
 have sc : No 3:=trivial;refine wd BB [] [(2,4),(3,4)] A1 (AD @cR) ?_;clear sc;with_reducible repeat' first|constructor|intro hc;try simp only[A3] at hc
 refine ⟨_,_,rfl,rfl,?_⟩;simp [AE,A6,A5,A4]
theorem hno2 (n : Node) (c : Call) (m : A8) (h : Cs n) (hw : c.why = 2) (hr : AG n = false) : Go.Gar.Fn Tryz.prog 13 [n.d,c.d,m.d] (.tup [n.d,A9 []]):=by
 obtain ⟨cid,msg,why,ref,sent,tries⟩:=c
 dsimp only at hw
 subst hw
 have cO:=AY n h
 have cR:=AQ n h
 rw [hr] at cR
 have cT:=Bs n m
 refine A0 AB Tryz.func13 rfl rfl (Nat.le_of_ble_eq_true rfl) ?_
 unfold Node.d Node.cells View.cells Calls.cells Job.cells Call.d Call.cells Wi.A8.d Wi.A8.cells at *
 unfold hC Hw GR Da at *
 have d1:=Ds.mk [4,2] (cT);have sc : No 3:=trivial;refine wd BB [5] [(3,2),(4,2)] A1 (AD @cO) ?_;clear sc d1;with_reducible repeat' first|constructor|intro hc;try simp only[A3] at hc
 have sc : No 3:=trivial;refine wd BB [] [(2,4),(3,4)] A1 (AD @cR) ?_;clear sc;with_reducible repeat' first|constructor|intro hc;try simp only[A3] at hc
 refine ⟨_,_,rfl,rfl,?_⟩;simp [AE,A6,A5,A4]
theorem hno3 (n : Node) (c : Call) (m : A8) (h : Cs n) (hw : c.why = 3) (hr : AG n = false) : Go.Gar.Fn Tryz.prog 13 [n.d,c.d,m.d] (.tup [n.d,A9 []]):=by
 obtain ⟨cid,msg,why,ref,sent,tries⟩:=c
 dsimp only at hw
 subst hw
 have cO:=AY n h
 have cR:=AQ n h
 rw [hr] at cR
 have cT:=Bs n m
 refine A0 AB Tryz.func13 rfl rfl (Nat.le_of_ble_eq_true rfl) ?_
 unfold Node.d Node.cells View.cells Calls.cells Job.cells Call.d Call.cells Wi.A8.d Wi.A8.cells at *
 unfold hC Hw GR Da at *
 have d1:=Ds.mk [4,2] (cT);have sc : No 3:=trivial;refine wd BB [5] [(3,2),(4,2)] A1 (AD @cO) ?_;clear sc d1;with_reducible repeat' first|constructor|intro hc;try simp only[A3] at hc
 have sc : No 3:=trivial;refine wd BB [] [(2,4),(3,4)] A1 (AD @cR) ?_;clear sc;with_reducible repeat' first|constructor|intro hc;try simp only[A3] at hc
 refine ⟨_,_,rfl,rfl,?_⟩;simp [AE,A6,A5,A4]
theorem hno5 (n : Node) (c : Call) (m : A8) (h : Cs n) (hw : c.why = 5) (hr : AG n = false) : Go.Gar.Fn Tryz.prog 13 [n.d,c.d,m.d] (.tup [n.d,A9 []]):=by
 obtain ⟨cid,msg,why,ref,sent,tries⟩:=c
 dsimp only at hw
 subst hw
 have cO:=AY n h
 have cR:=AQ n h
 rw [hr] at cR
 have cT:=Bs n m
 refine A0 AB Tryz.func13 rfl rfl (Nat.le_of_ble_eq_true rfl) ?_
 unfold Node.d Node.cells View.cells Calls.cells Job.cells Call.d Call.cells Wi.A8.d Wi.A8.cells at *
 unfold hC Hw GR Da at *
 have d1:=Ds.mk [4,2] (cT);have sc : No 3:=trivial;refine wd BB [5] [(3,2),(4,2)] A1 (AD @cO) ?_;clear sc d1;with_reducible repeat' first|constructor|intro hc;try simp only[A3] at hc
 have sc : No 3:=trivial;refine wd BB [] [(2,4),(3,4)] A1 (AD @cR) ?_;clear sc;with_reducible repeat' first|constructor|intro hc;try simp only[A3] at hc
 refine ⟨_,_,rfl,rfl,?_⟩;simp [AE,A6,A5,A4]
theorem hno6 (n : Node) (c : Call) (m : A8) (h : Cs n) (hw : c.why = 6) (hr : AG n = false) : Go.Gar.Fn Tryz.prog 13 [n.d,c.d,m.d] (.tup [n.d,A9 []]):=by
 obtain ⟨cid,msg,why,ref,sent,tries⟩:=c
 dsimp only at hw
 subst hw
 have cO:=AY n h
 have cR:=AQ n h
 rw [hr] at cR
 have cT:=Bs n m
 refine A0 AB Tryz.func13 rfl rfl (Nat.le_of_ble_eq_true rfl) ?_
 unfold Node.d Node.cells View.cells Calls.cells Job.cells Call.d Call.cells Wi.A8.d Wi.A8.cells at *
 unfold hC Hw GR Da at *
 have d1:=Ds.mk [4,2] (cT);have sc : No 3:=trivial;refine wd BB [5] [(3,2),(4,2)] A1 (AD @cO) ?_;clear sc d1;with_reducible repeat' first|constructor|intro hc;try simp only[A3] at hc
 have sc : No 3:=trivial;refine wd BB [] [(2,4),(3,4)] A1 (AD @cR) ?_;clear sc;with_reducible repeat' first|constructor|intro hc;try simp only[A3] at hc
 refine ⟨_,_,rfl,rfl,?_⟩;simp [AE,A6,A5,A4]
theorem hno7 (n : Node) (c : Call) (m : A8) (h : Cs n) (hw : c.why = 7) (hr : AG n = false) : Go.Gar.Fn Tryz.prog 13 [n.d,c.d,m.d] (.tup [n.d,A9 []]):=by
 obtain ⟨cid,msg,why,ref,sent,tries⟩:=c
 dsimp only at hw
 subst hw
 have cO:=AY n h
 have cR:=AQ n h
 rw [hr] at cR
 have cT:=Bs n m
 refine A0 AB Tryz.func13 rfl rfl (Nat.le_of_ble_eq_true rfl) ?_
 unfold Node.d Node.cells View.cells Calls.cells Job.cells Call.d Call.cells Wi.A8.d Wi.A8.cells at *
 unfold hC Hw GR Da at *
 have d1:=Ds.mk [4,2] (cT);have sc : No 3:=trivial;refine wd BB [5] [(3,2),(4,2)] A1 (AD @cO) ?_;clear sc d1;with_reducible repeat' first|constructor|intro hc;try simp only[A3] at hc
 have sc : No 3:=trivial;refine wd BB [] [(2,4),(3,4)] A1 (AD @cR) ?_;clear sc;with_reducible repeat' first|constructor|intro hc;try simp only[A3] at hc
 refine ⟨_,_,rfl,rfl,?_⟩;simp [AE,A6,A5,A4]
theorem hok1 (n : Node) (c : Call) (m : A8) (h : Cs n) (hw : c.why = 1) (hr : AG n = true) (hm : Ab m) (h0 : 0 ≤ n.phase) : Go.Gar.Fn Tryz.prog 13 [n.d,c.d,m.d] (.tup [(Yl n m).d,A9 (BW n.view n.phase n.of_ m).2]):=by
 obtain ⟨cid,msg,why,ref,sent,tries⟩:=c
 dsimp only at hw
 subst hw
 have cO:=AY n h
 have cR:=AQ n h
 rw [hr] at cR
 have cT:=Bs n m
 have cE:=Ns n m h0 h.vb h.vl hm
 unfold Yl at *
 generalize BW n.view n.phase n.of_ m = r at *
 refine A0 AB Tryz.func13 rfl rfl (Nat.le_of_ble_eq_true rfl) ?_
 unfold Node.d Node.cells View.cells Calls.cells Job.cells Call.d Call.cells Wi.A8.d Wi.A8.cells at *
 unfold hC Hw GR Da at *
 have d1:=Ds.mk [4,2] (cT);have sc : No 3:=trivial;refine wd BB [5] [(3,2),(4,2)] A1 (AD @cO) ?_;clear sc d1;with_reducible repeat' first|constructor|intro hc;try simp only[A3] at hc
 have d1:=Ds.mk [4,2] (cE);have sc : No 3:=trivial;refine wd BB [] [(2,4),(3,4)] A1 (AD @cR) ?_;clear sc d1;with_reducible repeat' first|constructor|intro hc;try simp only[A3] at hc
 refine ⟨_,_,rfl,rfl,?_⟩;simp [AE,A6,A5,A4]
theorem hok2 (n : Node) (c : Call) (m : A8) (h : Cs n) (hw : c.why = 2) (hr : AG n = true) (hm : Ab m) (h0 : 0 ≤ n.phase) : Go.Gar.Fn Tryz.prog 13 [n.d,c.d,m.d] (.tup [(Yl n m).d,A9 (BW n.view n.phase n.of_ m).2]):=by
 obtain ⟨cid,msg,why,ref,sent,tries⟩:=c
 dsimp only at hw
 subst hw
 have cO:=AY n h
 have cR:=AQ n h
 rw [hr] at cR
 have cT:=Bs n m
 have cE:=Ns n m h0 h.vb h.vl hm
 unfold Yl at *
 generalize BW n.view n.phase n.of_ m = r at *
 refine A0 AB Tryz.func13 rfl rfl (Nat.le_of_ble_eq_true rfl) ?_
 unfold Node.d Node.cells View.cells Calls.cells Job.cells Call.d Call.cells Wi.A8.d Wi.A8.cells at *
 unfold hC Hw GR Da at *
 have d1:=Ds.mk [4,2] (cT);have sc : No 3:=trivial;refine wd BB [5] [(3,2),(4,2)] A1 (AD @cO) ?_;clear sc d1;with_reducible repeat' first|constructor|intro hc;try simp only[A3] at hc
 have d1:=Ds.mk [4,2] (cE);have sc : No 3:=trivial;refine wd BB [] [(2,4),(3,4)] A1 (AD @cR) ?_;clear sc d1;with_reducible repeat' first|constructor|intro hc;try simp only[A3] at hc
 refine ⟨_,_,rfl,rfl,?_⟩;simp [AE,A6,A5,A4]
theorem hok3 (n : Node) (c : Call) (m : A8) (h : Cs n) (hw : c.why = 3) (hr : AG n = true) (hm : Ab m) (h0 : 0 ≤ n.phase) : Go.Gar.Fn Tryz.prog 13 [n.d,c.d,m.d] (.tup [(Yl n m).d,A9 (BW n.view n.phase n.of_ m).2]):=by
 obtain ⟨cid,msg,why,ref,sent,tries⟩:=c
 dsimp only at hw
 subst hw
 have cO:=AY n h
 have cR:=AQ n h
 rw [hr] at cR
 have cT:=Bs n m
 have cE:=Ns n m h0 h.vb h.vl hm
 unfold Yl at *
 generalize BW n.view n.phase n.of_ m = r at *
 refine A0 AB Tryz.func13 rfl rfl (Nat.le_of_ble_eq_true rfl) ?_
 unfold Node.d Node.cells View.cells Calls.cells Job.cells Call.d Call.cells Wi.A8.d Wi.A8.cells at *
 unfold hC Hw GR Da at *
 have d1:=Ds.mk [4,2] (cT);have sc : No 3:=trivial;refine wd BB [5] [(3,2),(4,2)] A1 (AD @cO) ?_;clear sc d1;with_reducible repeat' first|constructor|intro hc;try simp only[A3] at hc
 have d1:=Ds.mk [4,2] (cE);have sc : No 3:=trivial;refine wd BB [] [(2,4),(3,4)] A1 (AD @cR) ?_;clear sc d1;with_reducible repeat' first|constructor|intro hc;try simp only[A3] at hc
 refine ⟨_,_,rfl,rfl,?_⟩;simp [AE,A6,A5,A4]
theorem hok5 (n : Node) (c : Call) (m : A8) (h : Cs n) (hw : c.why = 5) (hr : AG n = true) (hx0 : 0 ≤ n.next) (hx1 : n.next < 16) (hm : Ab m) (hj : n.finger.left.length ≤ 100000) (ha : (As n.view n.finger m).asks.length ≤ 100000) (hs : (As n.view n.finger m).job.item.key.length ≤ 9223372036854775807) : Go.Gar.Fn Tryz.prog 13 [n.d,c.d,m.d] (.tup [(AK n 5 (decide (n.finger.phase = 5)) (As n.view n.finger m)).1.d,A9 (AK n 5 (decide (n.finger.phase = 5)) (As n.view n.finger m)).2]):=by
 obtain ⟨cid,msg,why,ref,sent,tries⟩:=c
 dsimp only at hw
 subst hw
 have cO:=AY n h
 have cR:=AQ n h
 rw [hr] at cR
 have cT:=Bs n m
 have cE:=TW n m hx0 hx1 h.vb h.vl h.kn hm hj ha hs
 generalize (AK n 5 (decide (n.finger.phase = 5)) (As n.view n.finger m)) = r at *
 refine A0 AB Tryz.func13 rfl rfl (Nat.le_of_ble_eq_true rfl) ?_
 unfold Node.d Node.cells View.cells Calls.cells Job.cells Call.d Call.cells Wi.A8.d Wi.A8.cells at *
 unfold hC Hw GR Da at *
 have d1:=Ds.mk [4,2] (cT);have sc : No 3:=trivial;refine wd BB [5] [(3,2),(4,2)] A1 (AD @cO) ?_;clear sc d1;with_reducible repeat' first|constructor|intro hc;try simp only[A3] at hc
 have d1:=Ds.mk [4,2,5,6,8] (cE);have sc : No 3:=trivial;refine wd BB [] [(2,4),(3,4)] A1 (AD @cR) ?_;clear sc d1;with_reducible repeat' first|constructor|intro hc;try simp only[A3] at hc
 refine ⟨_,_,rfl,rfl,?_⟩;simp [AE,A6,A5,A4]
theorem hok6 (n : Node) (c : Call) (m : A8) (h : Cs n) (hw : c.why = 6) (hr : AG n = true) (hx0 : 0 ≤ n.next) (hx1 : n.next < 16) (hm : Ab m) (hj : n.mirror.left.length ≤ 100000) (ha : (As n.view n.mirror m).asks.length ≤ 100000) (hs : (As n.view n.mirror m).job.item.key.length ≤ 9223372036854775807) : Go.Gar.Fn Tryz.prog 13 [n.d,c.d,m.d] (.tup [(AK n 6 (decide (n.mirror.phase = 5)) (As n.view n.mirror m)).1.d,A9 (AK n 6 (decide (n.mirror.phase = 5)) (As n.view n.mirror m)).2]):=by
 obtain ⟨cid,msg,why,ref,sent,tries⟩:=c
 dsimp only at hw
 subst hw
 have cO:=AY n h
 have cR:=AQ n h
 rw [hr] at cR
 have cT:=Bs n m
 have cE:=Tg n m hx0 hx1 h.vb h.vl h.kn hm hj ha hs
 generalize (AK n 6 (decide (n.mirror.phase = 5)) (As n.view n.mirror m)) = r at *
 refine A0 AB Tryz.func13 rfl rfl (Nat.le_of_ble_eq_true rfl) ?_
 unfold Node.d Node.cells View.cells Calls.cells Job.cells Call.d Call.cells Wi.A8.d Wi.A8.cells at *
 unfold hC Hw GR Da at *
 have d1:=Ds.mk [4,2] (cT);have sc : No 3:=trivial;refine wd BB [5] [(3,2),(4,2)] A1 (AD @cO) ?_;clear sc d1;with_reducible repeat' first|constructor|intro hc;try simp only[A3] at hc
 have d1:=Ds.mk [4,2,5,6,9] (cE);have sc : No 3:=trivial;refine wd BB [] [(2,4),(3,4)] A1 (AD @cR) ?_;clear sc d1;with_reducible repeat' first|constructor|intro hc;try simp only[A3] at hc
 refine ⟨_,_,rfl,rfl,?_⟩;simp [AE,A6,A5,A4]
theorem hok7 (n : Node) (c : Call) (m : A8) (h : Cs n) (hw : c.why = 7) (hr : AG n = true) (hx0 : 0 ≤ n.next) (hx1 : n.next < 16) (hm : Ab m) (hj : n.client.left.length ≤ 100000) (ha : (As n.view n.client m).asks.length ≤ 100000) (hs : (As n.view n.client m).job.item.key.length ≤ 9223372036854775807) : Go.Gar.Fn Tryz.prog 13 [n.d,c.d,m.d] (.tup [(AK n 7 (decide (n.client.phase = 5)) (As n.view n.client m)).1.d,A9 (AK n 7 (decide (n.client.phase = 5)) (As n.view n.client m)).2]):=by
 obtain ⟨cid,msg,why,ref,sent,tries⟩:=c
 dsimp only at hw
 subst hw
 have cO:=AY n h
 have cR:=AQ n h
 rw [hr] at cR
 have cT:=Bs n m
 have cE:=Sc n m hx0 hx1 h.vb h.vl h.kn hm hj ha hs
 generalize (AK n 7 (decide (n.client.phase = 5)) (As n.view n.client m)) = r at *
 refine A0 AB Tryz.func13 rfl rfl (Nat.le_of_ble_eq_true rfl) ?_
 unfold Node.d Node.cells View.cells Calls.cells Job.cells Call.d Call.cells Wi.A8.d Wi.A8.cells at *
 unfold hC Hw GR Da at *
 have d1:=Ds.mk [4,2] (cT);have sc : No 3:=trivial;refine wd BB [5] [(3,2),(4,2)] A1 (AD @cO) ?_;clear sc d1;with_reducible repeat' first|constructor|intro hc;try simp only[A3] at hc
 have d1:=Ds.mk [4,2,5,6,10] (cE);have sc : No 3:=trivial;refine wd BB [] [(2,4),(3,4)] A1 (AD @cR) ?_;clear sc d1;with_reducible repeat' first|constructor|intro hc;try simp only[A3] at hc
 refine ⟨_,_,rfl,rfl,?_⟩;simp [AE,A6,A5,A4]
abbrev Mv : List Nat:=[0,1,2,3,4,5,12,17,30]
theorem Cd {α : Type} [BEq α] [LawfulBEq α] (a : α) : (a == a) = true:=beq_self_eq_true a
theorem Um (a : Call) (ha : Ab a.msg) : Go.Gar.Fn Tryz.prog 177 [a.d,a.d] (.b true):=by
 have c1:=Wi.Kf a.msg a.msg (lm ha)
 rw [decide_eq_true rfl] at c1
 obtain ⟨i,m,w,r,s,t⟩:=a
 have f1:=Cd i
 have f2:=Cd w
 have f3:=Cd r
 have f4:=Cd s
 have f5:=Cd t
 unfold Wi.A8.d Wi.A8.cells at c1
 refine A0 AB Tryz.func177 rfl rfl (Nat.le_of_ble_eq_true rfl) ?_
 unfold Call.d Call.cells
 refine wk [0,1,2,3,4] [] (IF f1 f2 f3 f4 f5) (AD @c1) ?_;with_reducible repeat' first|constructor|intro hc;try simp only[A3] at hc
 refine ⟨_,_,rfl,rfl,?_⟩;simp [AE,A6,A5,A4]
theorem SS (a : List Call) (ha : ∀ x ∈ a,Ab x.msg) (hn : a.length ≤ 1048576) : Go.Gar.Fn Tryz.prog 114 [BA a,BA a] (.b true):=by
 have f1:=Cd (a.length : Int)
 refine A0 AB Tryz.func114 rfl rfl (Nat.le_of_ble_eq_true rfl) ?_
 refine wd [0,1,4,5,10,14,26] [] [] (AD f1) A1 ?_;with_reducible repeat' first|constructor|intro hc;try simp only[A3] at hc
 refine B1 (fun k => k ≤ a.length) (fun k : Nat => [(5,.d (.i .i64 k))]) (fun k => a.length - k) 0 (Nat.zero_le _) (fun _ => rfl) ?_ ?_
 ·exact A2.ck rfl
 rintro k hk
 by_cases hkl : k < a.length
 ·obtain ⟨x,hx⟩:=AR hkl
  have c1:=Um x (ha x (List.mem_of_getElem? hx))
  unfold Call.d Call.cells at c1
  have ix1:=hx;refine wd [0,1,4,5,10,14,26] [] [] A1 (AD @c1) ?_;clear ix1;with_reducible repeat' first|constructor|intro hc;try simp only[A3] at hc
  refine ⟨k + 1,hkl,by omega,Nat.le_refl _,?_⟩
  exact A2.ck rfl
 ·have e : k = a.length:=by omega
  subst e
  refine wd [0,1,4,5,10,14,26] [] [] A1 A1 ?_;with_reducible repeat' first|constructor|intro hc;try simp only[A3] at hc
  refine ⟨_,_,rfl,rfl,?_⟩;simp [AE,A6,A5,A4]
theorem QA (c : Calls) (ha : ∀ x ∈ c.op,Ab x.msg) (hn : c.op.length ≤ 1048576) : Go.Gar.Fn Tryz.prog 57 [c.d,c.d] (.b true):=by
 have c1:=SS c.op ha hn
 obtain ⟨i,m,o⟩:=c
 have f1:=Cd i
 have f2:=Cd m
 refine A0 AB Tryz.func57 rfl rfl (Nat.le_of_ble_eq_true rfl) ?_
 unfold Calls.d Calls.cells
 refine wk [0,1,2,3,4] [] (Ao f1 f2) (AD @c1) ?_;with_reducible repeat' first|constructor|intro hc;try simp only[A3] at hc
 refine ⟨_,_,rfl,rfl,?_⟩;simp [AE,A6,A5,A4]
theorem Ug (a : List Past) (ha : ∀ x ∈ a,Ab x.told) (hn : a.length ≤ 1048576) : Go.Gar.Fn Tryz.prog 58 [AS a,AS a] (.b true):=by
 have f1:=Cd (a.length : Int)
 refine A0 AB Tryz.func58 rfl rfl (Nat.le_of_ble_eq_true rfl) ?_
 refine wd [0,1,4,5,10,14,54] [] [] (AD f1) A1 ?_;with_reducible repeat' first|constructor|intro hc;try simp only[A3] at hc
 refine B1 (fun k => k ≤ a.length) (fun k : Nat => [(5,.d (.i .i64 k))]) (fun k => a.length - k) 0 (Nat.zero_le _) (fun _ => rfl) ?_ ?_
 ·exact A2.ck rfl
 rintro k hk
 by_cases hkl : k < a.length
 ·obtain ⟨x,hx⟩:=AR hkl
  have c1:=Wi.Kf x.told x.told (lm (ha x (List.mem_of_getElem? hx)))
  rw [decide_eq_true rfl] at c1
  unfold Wi.A8.d Wi.A8.cells at c1
  have f2:=Cd x.src
  have f3:=Cd x.call
  have ix1:=hx;refine wd [0,1,4,5,10,14,54] [] [] (Ao f2 f3) (AD @c1) ?_;clear ix1;with_reducible repeat' first|constructor|intro hc;try simp only[A3] at hc
  refine ⟨k + 1,hkl,by omega,Nat.le_refl _,?_⟩
  exact A2.ck rfl
 ·have e : k = a.length:=by omega
  subst e
  refine wd [0,1,4,5,10,14,54] [] [] A1 A1 ?_;with_reducible repeat' first|constructor|intro hc;try simp only[A3] at hc
  refine ⟨_,_,rfl,rfl,?_⟩;simp [AE,A6,A5,A4]
theorem Ah (j : Job) (hn : j.left.length ≤ 1048576) : Go.Gar.Fn Tryz.prog 20 [j.d,j.d] (.b true):=by
 obtain ⟨what,phase,look,item,owner,left,code⟩:=j
 dsimp only at hn
 have f1:=Cd (left.length : Int)
 have f2:=Cd what
 have f3:=Cd phase
 have f4:=Cd owner
 have f5:=Cd code
 have f6 : Cy look.cells look.cells = true:=by unfold Look.cells;simp [Cy,eq1]
 have f7 : Cy item.cells item.cells = true:=by unfold Item.cells;simp [Cy,eq1]
 unfold Look.cells at f6
 unfold Item.cells at f7
 refine A0 AB Tryz.func20 rfl rfl (Nat.le_of_ble_eq_true rfl) ?_
 unfold Job.d Job.cells
 refine wd Mv [] [] (AD f1) A1 ?_;with_reducible repeat' first|constructor|intro hc;try simp only[A3] at hc
 refine B1 (fun k => k ≤ left.length) (fun k : Nat => [(5,.d (.i .i64 k))]) (fun k => left.length - k) 0 (Nat.zero_le _) (fun _ => rfl) ?_ ?_
 ·exact A2.ck rfl
 rintro k hk
 by_cases hkl : k < left.length
 ·obtain ⟨x,hx⟩:=AR hkl
  have g1:=Cd x
  have ix1:=hx;refine wd Mv [] [] (AD g1) A1 ?_;clear ix1;with_reducible repeat' first|constructor|intro hc;try simp only[A3] at hc
  refine ⟨k + 1,hkl,by omega,Nat.le_refl _,?_⟩
  exact A2.ck rfl
 ·have e : k = left.length:=by omega
  subst e
  refine wd Mv [] [] (Pe f2 f3 f4 f5 f6 f7) A1 ?_;with_reducible repeat' first|constructor|intro hc;try simp only[A3] at hc
  refine ⟨_,_,rfl,rfl,?_⟩;simp [AE,A6,A5,A4]
end Nd
end Go.Proofs.YtnahkfkljohjaaaGreatDoor
namespace Go.Proofs.YtnahkfkljohjaaaGreatDoor
namespace Nd
open Go.Gar
open Wi (A8 B0 Ak)
set_option maxRecDepth 4000
theorem KY (j : Job) (h : j.left.length ≤ 1048576) : Go.Gar.Fn Tryz.prog 54 [j.d] j.d:=by
 refine A0 AB Tryz.func54 rfl rfl (Nat.le_of_ble_eq_true rfl) ?_
 unfold Job.d Job.cells
 refine wk [0,1,2] [] A1 A1 ?_;with_reducible repeat' first|constructor|intro hc;try simp only[A3] at hc
 refine ⟨_,_,rfl,rfl,?_⟩;simp [AE,A6,A5,A4]
theorem Uq (l : List Item) (h : l.length ≤ 1048576) : Go.Gar.Fn Tryz.prog 55 [AZ l] (AZ l):=by
 refine A0 AB Tryz.func55 rfl rfl (Nat.le_of_ble_eq_true rfl) ?_
 refine wk [0,2] [] A1 A1 ?_;with_reducible repeat' first|constructor|intro hc;try simp only[A3] at hc
 refine ⟨_,_,rfl,rfl,?_⟩;simp [AE,A6,A5,A4]
theorem Sj (v : View) (h1 : v.base.length ≤ 1048576) (h2 : v.list.length ≤ 1048576) : Go.Gar.Fn Tryz.prog 51 [v.d] v.d:=by
 obtain ⟨id,base,list,pred,f⟩:=v
 replace h1 : base.length ≤ 1048576:=h1
 replace h2 : list.length ≤ 1048576:=h2
 refine A0 AB Tryz.func51 rfl rfl (Nat.le_of_ble_eq_true rfl) ?_
 refine wk [0,1,2] [] A1 A1 ?_;with_reducible repeat' first|constructor|intro hc;try simp only[A3] at hc
 refine ⟨_,_,rfl,rfl,?_⟩;simp [AE,A6,A5,A4,View.d,View.cells]
theorem WV (l : List Past) (hl : ∀ x ∈ l,Ab x.told) (hn : l.length ≤ 1048576) : Go.Gar.Fn Tryz.prog 53 [AS l] (AS l):=by
 refine A0 AB Tryz.func53 rfl rfl (Nat.le_of_ble_eq_true rfl) ?_
 refine wk [0,2,3,4,5,9] [] A1 A1 ?_;with_reducible repeat' first|constructor|intro hc;try simp only[A3] at hc
 refine BN (A2.WJ 3 (.sl 17 []) rfl rfl rfl (by simp [A4])) (by simp) ?_
 refine C6 (fun k => k ≤ l.length) (fun k : Nat => [(3,.sl 0 (l.take k).length 17),(4,.d (.i .i64 k))]) (fun k => [(0,.a (AS (l.take k)))]) (fun k => l.length - k) 0 (Nat.zero_le _) (fun _ => rfl) (fun _ => rfl) ?_ ?_
 ·exact A2.ck rfl
 intro k hk
 have htl : (l.take k).length ≤ k:=List.length_take_le _ _
 by_cases hkl : k < l.length
 ·obtain ⟨x,hx⟩:=AR hkl
  have c1:=IZ x.told (hl x (List.mem_of_getElem? hx))
  have hn:=AT hx
  unfold A8.d A8.cells at c1
  have ix1:=hx;refine wk [0,2,3,4,5,9] [] A1 (AD @c1) ?_;clear ix1;with_reducible repeat' first|constructor|intro hc;try simp only[A3] at hc
  refine ⟨k + 1,hkl,by omega,Nat.le_refl _,?_⟩
  exact A2.cut rfl (by repeat' (first | exact True.intro | refine And.intro (by (first | rfl | ((with_reducible_and_instances refine congrArg (fun z => some (AV.d (D.i _ z))) ?_);omega) | (refine congrArg (fun z => some (AV.d (D.i _ z))) (?_ : (_ : Int) = _);omega) | (refine congrArg some ?_;simp only [hn,AS,List.map_append,List.map_cons,List.map_nil,Past.cells,List.length_append,List.length_cons,List.length_nil];done) | (refine congrArg some ?_;simp [hn,AS,List.map_append,List.map_cons,List.map_nil,Past.cells,List.length_append,List.length_cons,List.length_nil];done))) ?_)) (by repeat' (first | exact True.intro | refine And.intro (Or.inr rfl) ?_ | refine And.intro (Or.inl ⟨rfl,rfl⟩) ?_ | refine And.intro (Or.inr (by simp only [hn,AS,List.map_append,List.map_cons,List.map_nil,Past.cells,List.length_append,List.length_cons,List.length_nil])) ?_ | refine And.intro (Or.inr (by simp [hn,AS,List.map_append,List.map_cons,List.map_nil,Past.cells,List.length_append,List.length_cons,List.length_nil])) ?_)) (by first | rfl | (simp (decide:=true) [Ae,AC.ok,AV.oks,AV.ok,hk];done)) rfl
 ·have e : k = l.length:=by omega
  subst e
  rw [List.take_length]
  refine wk [0,2,3,4,5,9] [] A1 A1 ?_;with_reducible repeat' first|constructor|intro hc;try simp only[A3] at hc
  refine ⟨_,_,rfl,rfl,?_⟩;simp [AE,A6,A5,A4]
theorem UN (c : Calls) (hl : ∀ x ∈ c.op,Ab x.msg) (hn : c.op.length ≤ 1048576) : Go.Gar.Fn Tryz.prog 52 [c.d] c.d:=by
 obtain ⟨id,many,l⟩:=c
 replace hl : ∀ x ∈ l,Ab x.msg:=hl
 replace hn : l.length ≤ 1048576:=hn
 refine A0 AB Tryz.func52 rfl rfl (Nat.le_of_ble_eq_true rfl) ?_
 unfold Calls.d Calls.cells
 refine wk [0,1,2,3,4,5,10] [] A1 A1 ?_;with_reducible repeat' first|constructor|intro hc;try simp only[A3] at hc
 refine BN (A2.WJ 3 (.sl 20 []) rfl rfl rfl (by simp [A4])) (by simp) ?_
 refine C6 (fun k => k ≤ l.length) (fun k : Nat => [(3,.sl 2 (l.take k).length 20),(4,.d (.i .i64 k))]) (fun k => [(2,.a (BA (l.take k)))]) (fun k => l.length - k) 0 (Nat.zero_le _) (fun _ => rfl) (fun _ => rfl) ?_ ?_
 ·exact A2.ck rfl
 intro k hk
 have htl : (l.take k).length ≤ k:=List.length_take_le _ _
 by_cases hkl : k < l.length
 ·obtain ⟨x,hx⟩:=AR hkl
  have c1:=IZ x.msg (hl x (List.mem_of_getElem? hx))
  have hn:=AT hx
  unfold A8.d A8.cells at c1
  have ix1:=hx;refine wk [0,1,2,3,4,5,10] [] A1 (AD @c1) ?_;clear ix1;with_reducible repeat' first|constructor|intro hc;try simp only[A3] at hc
  refine ⟨k + 1,hkl,by omega,Nat.le_refl _,?_⟩
  exact A2.cut rfl (by repeat' (first | exact True.intro | refine And.intro (by (first | rfl | ((with_reducible_and_instances refine congrArg (fun z => some (AV.d (D.i _ z))) ?_);omega) | (refine congrArg (fun z => some (AV.d (D.i _ z))) (?_ : (_ : Int) = _);omega) | (refine congrArg some ?_;simp only [hn,BA,List.map_append,List.map_cons,List.map_nil,Call.cells,List.length_append,List.length_cons,List.length_nil];done) | (refine congrArg some ?_;simp [hn,BA,List.map_append,List.map_cons,List.map_nil,Call.cells,List.length_append,List.length_cons,List.length_nil];done))) ?_)) (by repeat' (first | exact True.intro | refine And.intro (Or.inr rfl) ?_ | refine And.intro (Or.inl ⟨rfl,rfl⟩) ?_ | refine And.intro (Or.inr (by simp only [hn,BA,List.map_append,List.map_cons,List.map_nil,Call.cells,List.length_append,List.length_cons,List.length_nil])) ?_ | refine And.intro (Or.inr (by simp [hn,BA,List.map_append,List.map_cons,List.map_nil,Call.cells,List.length_append,List.length_cons,List.length_nil])) ?_)) (by first | rfl | (simp (decide:=true) [Ae,AC.ok,AV.oks,AV.ok,hk];done)) rfl
 ·have e : k = l.length:=by omega
  subst e
  rw [List.take_length]
  refine wk [0,1,2,3,4,5,10] [] A1 A1 ?_;with_reducible repeat' first|constructor|intro hc;try simp only[A3] at hc
  refine ⟨_,_,rfl,rfl,?_⟩;simp [AE,A6,A5,A4]
theorem VV (n : Node) (h : Cs n) : Go.Gar.Fn Tryz.prog 18 [n.d] n.d:=by
 have c1:=Sj n.view (by have:=h.vb;omega) (by have:=h.vl;omega)
 have c2:=UN n.calls h.cl h.cn
 have c3:=WV n.seen h.sl h.sn
 have c4:=KY n.finger h.fl
 have c5:=KY n.mirror h.ml
 have c6:=KY n.client h.tl
 have c7:=Uq n.keep h.kn
 refine A0 AB Tryz.func18 rfl rfl (Nat.le_of_ble_eq_true rfl) ?_
 unfold View.d View.cells at c1
 unfold Calls.d Calls.cells at c2
 unfold Job.d Job.cells at c4 c5 c6
 refine wk [0,1,2] [] A1 (Tu @c1 @c2 @c3 @c4 @c5 @c6 @c7) ?_;with_reducible repeat' first|constructor|intro hc;try simp only[A3] at hc
 refine ⟨_,_,rfl,rfl,?_⟩;simp [AE,A6,A5,A4,Node.d,Node.cells,View.cells,Calls.cells,Job.cells]
end Nd
end Go.Proofs.YtnahkfkljohjaaaGreatDoor
