/- Part 46 of the texts of this proof, put together by a program and made short.
Conditions: none; what each theorem asks stands in its own hypotheses. -/
import Derived.Test.YtnahkfkljohjaaaGreatDoorH30
import Derived.Test.YtnahkfkljohjaaaGreatDoorH44
import Derived.Ground.SlgfProg
import Derived.Lib.SliceRun
import Derived.Shelf.SlicesE.DeleteFunc
import Derived.Sort.Walk0
import Derived.KernelRfl
import Derived.RangeFuncIn
import Derived.OpenShut
import Derived.ProofKit
import Derived.CallsIn
import Derived.RangeFuncLeaves
import Derived.OrdersIn
import Derived.TacticsIn
import Derived.ChangeKeysEq
import Derived.Laws.AppendOwn
import Derived.Laws.OwnMore
import Derived.Laws.MakeOwn
import Derived.Laws.Rows
import Derived.Laws.Cells
import Derived.Laws.Tables
import Derived.Laws.CopyRow
import Derived.Laws.Strings
import Derived.Laws.IdiomStrings
import Derived.Laws.BytesArg
import Derived.Sort.Grow
import Derived.Laws.Cover3
import Derived.RecoverIn
import Derived.Test.YtnahkfkljohjaaaGreatDoorProg
set_option linter.unusedSimpArgs false
set_option linter.unusedVariables false
set_option linter.unnecessarySimpa false
set_option maxHeartbeats 40000000
namespace Go.Proofs.YtnahkfkljohjaaaGreatDoor
namespace Nd
open Go.Gar
open Wi (A8 B0 Ak AX B8 mC)
set_option maxRecDepth 4000
abbrev B2 : List Nat:=[0,1,2,3,4,5,6,7,8,9,10,11,31,39]
theorem lx (n : Node) (c : Call) (h : Cs n) (hw : HP c.why [1,2,3,5,6,7] = true) (hr : AG n = true) : Go.Gar.Fn Tryz.prog 14 [n.d,c.d] (.tup [({ n with view:=Ad n.view c.msg.dst } : Node).d,A9 []]):=by
 obtain ⟨cid,msg,why,ref,sent,tries⟩:=c
 dsimp only at hw
 have cO:=AY n h
 have cR:=AQ n h
 rw [hr] at cR
 have cT:=Bg n msg.dst
 have cD:=F0 n.view msg.dst h.vb h.vl
 generalize Ad n.view msg.dst = v1 at *
 unfold View.d at cD
 refine A0 AB Tryz.func14 rfl rfl (Nat.le_of_ble_eq_true rfl) ?_
 unfold Node.d Node.cells View.cells Calls.cells Job.cells Call.d Call.cells at *
 unfold hC Hg GG DL at *
 have d1:=Ds.mk [3,4] (cT);have lk1:=hw;have sc : No 3:=trivial;refine wd B2 [6] [(3,2),(4,2)] A1 (AD @cO) ?_;clear sc lk1 d1;with_reducible repeat' first|constructor|intro hc;try simp only[A3] at hc
 have sc : No 3:=trivial;refine wd B2 [] [(2,4),(3,4)] A1 (Ao @cR @cD) ?_;clear sc;with_reducible repeat' first|constructor|intro hc;try simp only[A3] at hc
 refine ⟨_,_,rfl,rfl,?_⟩;simp [AE,A6,A5,A4]
theorem lxno (n : Node) (c : Call) (h : Cs n) (hw : HP c.why [1,2,3,5,6,7] = true) (hr : AG n = false) : Go.Gar.Fn Tryz.prog 14 [n.d,c.d] (.tup [n.d,A9 []]):=by
 obtain ⟨cid,msg,why,ref,sent,tries⟩:=c
 dsimp only at hw
 have cO:=AY n h
 have cR:=AQ n h
 rw [hr] at cR
 have cT:=Bg n msg.dst
 refine A0 AB Tryz.func14 rfl rfl (Nat.le_of_ble_eq_true rfl) ?_
 unfold Node.d Node.cells View.cells Calls.cells Job.cells Call.d Call.cells at *
 unfold hC Hg GG DL at *
 have d1:=Ds.mk [3,4] (cT);have lk1:=hw;have sc : No 3:=trivial;refine wd B2 [6] [(3,2),(4,2)] A1 (AD @cO) ?_;clear sc lk1 d1;with_reducible repeat' first|constructor|intro hc;try simp only[A3] at hc
 have sc : No 3:=trivial;refine wd B2 [] [(2,4),(3,4)] A1 (AD @cR) ?_;clear sc;with_reducible repeat' first|constructor|intro hc;try simp only[A3] at hc
 refine ⟨_,_,rfl,rfl,?_⟩;simp [AE,A6,A5,A4]
theorem lno1 (n : Node) (c : Call) (h : Cs n) (hw : c.why = 1) (hr : AG n = false) : Go.Gar.Fn Tryz.prog 14 [n.d,c.d] (.tup [n.d,A9 []]):=by
 obtain ⟨cid,msg,why,ref,sent,tries⟩:=c
 dsimp only at hw
 subst hw
 have cO:=AY n h
 have cR:=AQ n h
 rw [hr] at cR
 have cT:=Bg n msg.dst
 refine A0 AB Tryz.func14 rfl rfl (Nat.le_of_ble_eq_true rfl) ?_
 unfold Node.d Node.cells View.cells Calls.cells Job.cells Call.d Call.cells at *
 unfold hC Hg GG DL at *
 have d1:=Ds.mk [3,4] (cT);have sc : No 3:=trivial;refine wd B2 [6] [(3,2),(4,2)] A1 (AD @cO) ?_;clear sc d1;with_reducible repeat' first|constructor|intro hc;try simp only[A3] at hc
 have sc : No 3:=trivial;refine wd B2 [] [(2,4),(3,4)] A1 (AD @cR) ?_;clear sc;with_reducible repeat' first|constructor|intro hc;try simp only[A3] at hc
 refine ⟨_,_,rfl,rfl,?_⟩;simp [AE,A6,A5,A4]
theorem lno2 (n : Node) (c : Call) (h : Cs n) (hw : c.why = 2) (hr : AG n = false) : Go.Gar.Fn Tryz.prog 14 [n.d,c.d] (.tup [n.d,A9 []]):=by
 obtain ⟨cid,msg,why,ref,sent,tries⟩:=c
 dsimp only at hw
 subst hw
 have cO:=AY n h
 have cR:=AQ n h
 rw [hr] at cR
 have cT:=Bg n msg.dst
 refine A0 AB Tryz.func14 rfl rfl (Nat.le_of_ble_eq_true rfl) ?_
 unfold Node.d Node.cells View.cells Calls.cells Job.cells Call.d Call.cells at *
 unfold hC Hg GG DL at *
 have d1:=Ds.mk [3,4] (cT);have sc : No 3:=trivial;refine wd B2 [6] [(3,2),(4,2)] A1 (AD @cO) ?_;clear sc d1;with_reducible repeat' first|constructor|intro hc;try simp only[A3] at hc
 have sc : No 3:=trivial;refine wd B2 [] [(2,4),(3,4)] A1 (AD @cR) ?_;clear sc;with_reducible repeat' first|constructor|intro hc;try simp only[A3] at hc
 refine ⟨_,_,rfl,rfl,?_⟩;simp [AE,A6,A5,A4]
theorem lno3 (n : Node) (c : Call) (h : Cs n) (hw : c.why = 3) (hr : AG n = false) : Go.Gar.Fn Tryz.prog 14 [n.d,c.d] (.tup [n.d,A9 []]):=by
 obtain ⟨cid,msg,why,ref,sent,tries⟩:=c
 dsimp only at hw
 subst hw
 have cO:=AY n h
 have cR:=AQ n h
 rw [hr] at cR
 have cT:=Bg n msg.dst
 refine A0 AB Tryz.func14 rfl rfl (Nat.le_of_ble_eq_true rfl) ?_
 unfold Node.d Node.cells View.cells Calls.cells Job.cells Call.d Call.cells at *
 unfold hC Hg GG DL at *
 have d1:=Ds.mk [3,4] (cT);have sc : No 3:=trivial;refine wd B2 [6] [(3,2),(4,2)] A1 (AD @cO) ?_;clear sc d1;with_reducible repeat' first|constructor|intro hc;try simp only[A3] at hc
 have sc : No 3:=trivial;refine wd B2 [] [(2,4),(3,4)] A1 (AD @cR) ?_;clear sc;with_reducible repeat' first|constructor|intro hc;try simp only[A3] at hc
 refine ⟨_,_,rfl,rfl,?_⟩;simp [AE,A6,A5,A4]
theorem lno5 (n : Node) (c : Call) (h : Cs n) (hw : c.why = 5) (hr : AG n = false) : Go.Gar.Fn Tryz.prog 14 [n.d,c.d] (.tup [n.d,A9 []]):=by
 obtain ⟨cid,msg,why,ref,sent,tries⟩:=c
 dsimp only at hw
 subst hw
 have cO:=AY n h
 have cR:=AQ n h
 rw [hr] at cR
 have cT:=Bg n msg.dst
 refine A0 AB Tryz.func14 rfl rfl (Nat.le_of_ble_eq_true rfl) ?_
 unfold Node.d Node.cells View.cells Calls.cells Job.cells Call.d Call.cells at *
 unfold hC Hg GG DL at *
 have d1:=Ds.mk [3,4] (cT);have sc : No 3:=trivial;refine wd B2 [6] [(3,2),(4,2)] A1 (AD @cO) ?_;clear sc d1;with_reducible repeat' first|constructor|intro hc;try simp only[A3] at hc
 have sc : No 3:=trivial;refine wd B2 [] [(2,4),(3,4)] A1 (AD @cR) ?_;clear sc;with_reducible repeat' first|constructor|intro hc;try simp only[A3] at hc
 refine ⟨_,_,rfl,rfl,?_⟩;simp [AE,A6,A5,A4]
theorem lno6 (n : Node) (c : Call) (h : Cs n) (hw : c.why = 6) (hr : AG n = false) : Go.Gar.Fn Tryz.prog 14 [n.d,c.d] (.tup [n.d,A9 []]):=by
 obtain ⟨cid,msg,why,ref,sent,tries⟩:=c
 dsimp only at hw
 subst hw
 have cO:=AY n h
 have cR:=AQ n h
 rw [hr] at cR
 have cT:=Bg n msg.dst
 refine A0 AB Tryz.func14 rfl rfl (Nat.le_of_ble_eq_true rfl) ?_
 unfold Node.d Node.cells View.cells Calls.cells Job.cells Call.d Call.cells at *
 unfold hC Hg GG DL at *
 have d1:=Ds.mk [3,4] (cT);have sc : No 3:=trivial;refine wd B2 [6] [(3,2),(4,2)] A1 (AD @cO) ?_;clear sc d1;with_reducible repeat' first|constructor|intro hc;try simp only[A3] at hc
 have sc : No 3:=trivial;refine wd B2 [] [(2,4),(3,4)] A1 (AD @cR) ?_;clear sc;with_reducible repeat' first|constructor|intro hc;try simp only[A3] at hc
 refine ⟨_,_,rfl,rfl,?_⟩;simp [AE,A6,A5,A4]
theorem lno7 (n : Node) (c : Call) (h : Cs n) (hw : c.why = 7) (hr : AG n = false) : Go.Gar.Fn Tryz.prog 14 [n.d,c.d] (.tup [n.d,A9 []]):=by
 obtain ⟨cid,msg,why,ref,sent,tries⟩:=c
 dsimp only at hw
 subst hw
 have cO:=AY n h
 have cR:=AQ n h
 rw [hr] at cR
 have cT:=Bg n msg.dst
 refine A0 AB Tryz.func14 rfl rfl (Nat.le_of_ble_eq_true rfl) ?_
 unfold Node.d Node.cells View.cells Calls.cells Job.cells Call.d Call.cells at *
 unfold hC Hg GG DL at *
 have d1:=Ds.mk [3,4] (cT);have sc : No 3:=trivial;refine wd B2 [6] [(3,2),(4,2)] A1 (AD @cO) ?_;clear sc d1;with_reducible repeat' first|constructor|intro hc;try simp only[A3] at hc
 have sc : No 3:=trivial;refine wd B2 [] [(2,4),(3,4)] A1 (AD @cR) ?_;clear sc;with_reducible repeat' first|constructor|intro hc;try simp only[A3] at hc
 refine ⟨_,_,rfl,rfl,?_⟩;simp [AE,A6,A5,A4]
theorem lok1 (n : Node) (c : Call) (h : Cs n) (hw : c.why = 1) (hr : AG n = true) (hv1 : (Ad n.view c.msg.dst).base.length ≤ 1000) (hv2 : (Ad n.view c.msg.dst).list.length ≤ 1000) : Go.Gar.Fn Tryz.prog 14 [n.d,c.d] (.tup [(Yk { n with view:=Ad n.view c.msg.dst } c.msg.dst).d,A9 []]):=by
 obtain ⟨cid,msg,why,ref,sent,tries⟩:=c
 dsimp only at hw
 subst hw
 have cO:=AY n h
 have cR:=AQ n h
 rw [hr] at cR
 have cT:=Bg n msg.dst
 have cD:=F0 n.view msg.dst h.vb h.vl
 dsimp only at hv1 hv2 ⊢
 generalize Ad n.view msg.dst = v1 at *
 have cE:=Mm { n with view:=v1 } msg.dst hv1 hv2
 unfold Yk at *
 dsimp only at cE ⊢
 generalize C8 v1 n.phase n.of_ msg.dst = r at *
 unfold View.d at cD
 refine A0 AB Tryz.func14 rfl rfl (Nat.le_of_ble_eq_true rfl) ?_
 unfold Node.d Node.cells View.cells Calls.cells Job.cells Call.d Call.cells at *
 unfold hC Hg GG DL at *
 have d1:=Ds.mk [3,4] (cT);have sc : No 3:=trivial;refine wd B2 [6] [(3,2),(4,2)] A1 (AD @cO) ?_;clear sc d1;with_reducible repeat' first|constructor|intro hc;try simp only[A3] at hc
 have d1:=Ds.mk [3,4] (cE);have sc : No 3:=trivial;refine wd B2 [] [(2,4),(3,4)] A1 (Ao @cR @cD) ?_;clear sc d1;with_reducible repeat' first|constructor|intro hc;try simp only[A3] at hc
 refine ⟨_,_,rfl,rfl,?_⟩;simp [AE,A6,A5,A4]
theorem lok2 (n : Node) (c : Call) (h : Cs n) (hw : c.why = 2) (hr : AG n = true) (hv1 : (Ad n.view c.msg.dst).base.length ≤ 1000) (hv2 : (Ad n.view c.msg.dst).list.length ≤ 1000) : Go.Gar.Fn Tryz.prog 14 [n.d,c.d] (.tup [(Yk { n with view:=Ad n.view c.msg.dst } c.msg.dst).d,A9 []]):=by
 obtain ⟨cid,msg,why,ref,sent,tries⟩:=c
 dsimp only at hw
 subst hw
 have cO:=AY n h
 have cR:=AQ n h
 rw [hr] at cR
 have cT:=Bg n msg.dst
 have cD:=F0 n.view msg.dst h.vb h.vl
 dsimp only at hv1 hv2 ⊢
 generalize Ad n.view msg.dst = v1 at *
 have cE:=Mm { n with view:=v1 } msg.dst hv1 hv2
 unfold Yk at *
 dsimp only at cE ⊢
 generalize C8 v1 n.phase n.of_ msg.dst = r at *
 unfold View.d at cD
 refine A0 AB Tryz.func14 rfl rfl (Nat.le_of_ble_eq_true rfl) ?_
 unfold Node.d Node.cells View.cells Calls.cells Job.cells Call.d Call.cells at *
 unfold hC Hg GG DL at *
 have d1:=Ds.mk [3,4] (cT);have sc : No 3:=trivial;refine wd B2 [6] [(3,2),(4,2)] A1 (AD @cO) ?_;clear sc d1;with_reducible repeat' first|constructor|intro hc;try simp only[A3] at hc
 have d1:=Ds.mk [3,4] (cE);have sc : No 3:=trivial;refine wd B2 [] [(2,4),(3,4)] A1 (Ao @cR @cD) ?_;clear sc d1;with_reducible repeat' first|constructor|intro hc;try simp only[A3] at hc
 refine ⟨_,_,rfl,rfl,?_⟩;simp [AE,A6,A5,A4]
theorem lok3 (n : Node) (c : Call) (h : Cs n) (hw : c.why = 3) (hr : AG n = true) (hv1 : (Ad n.view c.msg.dst).base.length ≤ 1000) (hv2 : (Ad n.view c.msg.dst).list.length ≤ 1000) : Go.Gar.Fn Tryz.prog 14 [n.d,c.d] (.tup [(Yk { n with view:=Ad n.view c.msg.dst } c.msg.dst).d,A9 []]):=by
 obtain ⟨cid,msg,why,ref,sent,tries⟩:=c
 dsimp only at hw
 subst hw
 have cO:=AY n h
 have cR:=AQ n h
 rw [hr] at cR
 have cT:=Bg n msg.dst
 have cD:=F0 n.view msg.dst h.vb h.vl
 dsimp only at hv1 hv2 ⊢
 generalize Ad n.view msg.dst = v1 at *
 have cE:=Mm { n with view:=v1 } msg.dst hv1 hv2
 unfold Yk at *
 dsimp only at cE ⊢
 generalize C8 v1 n.phase n.of_ msg.dst = r at *
 unfold View.d at cD
 refine A0 AB Tryz.func14 rfl rfl (Nat.le_of_ble_eq_true rfl) ?_
 unfold Node.d Node.cells View.cells Calls.cells Job.cells Call.d Call.cells at *
 unfold hC Hg GG DL at *
 have d1:=Ds.mk [3,4] (cT);have sc : No 3:=trivial;refine wd B2 [6] [(3,2),(4,2)] A1 (AD @cO) ?_;clear sc d1;with_reducible repeat' first|constructor|intro hc;try simp only[A3] at hc
 have d1:=Ds.mk [3,4] (cE);have sc : No 3:=trivial;refine wd B2 [] [(2,4),(3,4)] A1 (Ao @cR @cD) ?_;clear sc d1;with_reducible repeat' first|constructor|intro hc;try simp only[A3] at hc
 refine ⟨_,_,rfl,rfl,?_⟩;simp [AE,A6,A5,A4]
theorem lok5 (n : Node) (c : Call) (h : Cs n) (hw : c.why = 5) (hr : AG n = true) (hx0 : 0 ≤ n.next) (hx1 : n.next < 16) (hv1 : (Ad n.view c.msg.dst).base.length ≤ 1000) (hv2 : (Ad n.view c.msg.dst).list.length ≤ 1000) (hj : n.finger.left.length ≤ 100000) (ha : (Az (Ad n.view c.msg.dst) n.finger c.msg.dst).asks.length ≤ 100000) (hs : (Az (Ad n.view c.msg.dst) n.finger c.msg.dst).job.item.key.length ≤ 9223372036854775807) : Go.Gar.Fn Tryz.prog 14 [n.d,c.d] (.tup [(AK { n with view:=Ad n.view c.msg.dst } 5 (decide (n.finger.phase = 5)) (Az (Ad n.view c.msg.dst) n.finger c.msg.dst)).1.d,A9 (AK { n with view:=Ad n.view c.msg.dst } 5 (decide (n.finger.phase = 5)) (Az (Ad n.view c.msg.dst) n.finger c.msg.dst)).2]):=by
 obtain ⟨cid,msg,why,ref,sent,tries⟩:=c
 dsimp only at hw
 subst hw
 have cO:=AY n h
 have cR:=AQ n h
 rw [hr] at cR
 have cT:=Bg n msg.dst
 have cD:=F0 n.view msg.dst h.vb h.vl
 dsimp only at hv1 hv2 ha hs ⊢
 generalize Ad n.view msg.dst = v1 at *
 have cE:=TM { n with view:=v1 } msg.dst hx0 hx1 hv1 hv2 h.kn hj ha hs
 dsimp only at cE
 generalize (AK { n with view:=v1 } 5 (decide (n.finger.phase = 5)) (Az v1 n.finger msg.dst)) = r at *
 unfold View.d at cD
 refine A0 AB Tryz.func14 rfl rfl (Nat.le_of_ble_eq_true rfl) ?_
 unfold Node.d Node.cells View.cells Calls.cells Job.cells Call.d Call.cells at *
 unfold hC Hg GG DL at *
 have d1:=Ds.mk [3,4] (cT);have sc : No 3:=trivial;refine wd B2 [6] [(3,2),(4,2)] A1 (AD @cO) ?_;clear sc d1;with_reducible repeat' first|constructor|intro hc;try simp only[A3] at hc
 have d1:=Ds.mk [3,4,5,6,8] (cE);have sc : No 3:=trivial;refine wd B2 [] [(2,4),(3,4)] A1 (Ao @cR @cD) ?_;clear sc d1;with_reducible repeat' first|constructor|intro hc;try simp only[A3] at hc
 refine ⟨_,_,rfl,rfl,?_⟩;simp [AE,A6,A5,A4]
theorem lok6 (n : Node) (c : Call) (h : Cs n) (hw : c.why = 6) (hr : AG n = true) (hx0 : 0 ≤ n.next) (hx1 : n.next < 16) (hv1 : (Ad n.view c.msg.dst).base.length ≤ 1000) (hv2 : (Ad n.view c.msg.dst).list.length ≤ 1000) (hj : n.mirror.left.length ≤ 100000) (ha : (Az (Ad n.view c.msg.dst) n.mirror c.msg.dst).asks.length ≤ 100000) (hs : (Az (Ad n.view c.msg.dst) n.mirror c.msg.dst).job.item.key.length ≤ 9223372036854775807) : Go.Gar.Fn Tryz.prog 14 [n.d,c.d] (.tup [(AK { n with view:=Ad n.view c.msg.dst } 6 (decide (n.mirror.phase = 5)) (Az (Ad n.view c.msg.dst) n.mirror c.msg.dst)).1.d,A9 (AK { n with view:=Ad n.view c.msg.dst } 6 (decide (n.mirror.phase = 5)) (Az (Ad n.view c.msg.dst) n.mirror c.msg.dst)).2]):=by
 obtain ⟨cid,msg,why,ref,sent,tries⟩:=c
 dsimp only at hw
 subst hw
 have cO:=AY n h
 have cR:=AQ n h
 rw [hr] at cR
 have cT:=Bg n msg.dst
 have cD:=F0 n.view msg.dst h.vb h.vl
 dsimp only at hv1 hv2 ha hs ⊢
 generalize Ad n.view msg.dst = v1 at *
 have cE:=Se { n with view:=v1 } msg.dst hx0 hx1 hv1 hv2 h.kn hj ha hs
 dsimp only at cE
 generalize (AK { n with view:=v1 } 6 (decide (n.mirror.phase = 5)) (Az v1 n.mirror msg.dst)) = r at *
 unfold View.d at cD
 refine A0 AB Tryz.func14 rfl rfl (Nat.le_of_ble_eq_true rfl) ?_
 unfold Node.d Node.cells View.cells Calls.cells Job.cells Call.d Call.cells at *
 unfold hC Hg GG DL at *
 have d1:=Ds.mk [3,4] (cT);have sc : No 3:=trivial;refine wd B2 [6] [(3,2),(4,2)] A1 (AD @cO) ?_;clear sc d1;with_reducible repeat' first|constructor|intro hc;try simp only[A3] at hc
 have d1:=Ds.mk [3,4,5,6,9] (cE);have sc : No 3:=trivial;refine wd B2 [] [(2,4),(3,4)] A1 (Ao @cR @cD) ?_;clear sc d1;with_reducible repeat' first|constructor|intro hc;try simp only[A3] at hc
 refine ⟨_,_,rfl,rfl,?_⟩;simp [AE,A6,A5,A4]
theorem lok7 (n : Node) (c : Call) (h : Cs n) (hw : c.why = 7) (hr : AG n = true) (hx0 : 0 ≤ n.next) (hx1 : n.next < 16) (hv1 : (Ad n.view c.msg.dst).base.length ≤ 1000) (hv2 : (Ad n.view c.msg.dst).list.length ≤ 1000) (hj : n.client.left.length ≤ 100000) (ha : (Az (Ad n.view c.msg.dst) n.client c.msg.dst).asks.length ≤ 100000) (hs : (Az (Ad n.view c.msg.dst) n.client c.msg.dst).job.item.key.length ≤ 9223372036854775807) : Go.Gar.Fn Tryz.prog 14 [n.d,c.d] (.tup [(AK { n with view:=Ad n.view c.msg.dst } 7 (decide (n.client.phase = 5)) (Az (Ad n.view c.msg.dst) n.client c.msg.dst)).1.d,A9 (AK { n with view:=Ad n.view c.msg.dst } 7 (decide (n.client.phase = 5)) (Az (Ad n.view c.msg.dst) n.client c.msg.dst)).2]):=by
 obtain ⟨cid,msg,why,ref,sent,tries⟩:=c
 dsimp only at hw
 subst hw
 have cO:=AY n h
 have cR:=AQ n h
 rw [hr] at cR
 have cT:=Bg n msg.dst
 have cD:=F0 n.view msg.dst h.vb h.vl
 dsimp only at hv1 hv2 ha hs ⊢
 generalize Ad n.view msg.dst = v1 at *
 have cE:=SZ { n with view:=v1 } msg.dst hx0 hx1 hv1 hv2 h.kn hj ha hs
 dsimp only at cE
 generalize (AK { n with view:=v1 } 7 (decide (n.client.phase = 5)) (Az v1 n.client msg.dst)) = r at *
 unfold View.d at cD
 refine A0 AB Tryz.func14 rfl rfl (Nat.le_of_ble_eq_true rfl) ?_
 unfold Node.d Node.cells View.cells Calls.cells Job.cells Call.d Call.cells at *
 unfold hC Hg GG DL at *
 have d1:=Ds.mk [3,4] (cT);have sc : No 3:=trivial;refine wd B2 [6] [(3,2),(4,2)] A1 (AD @cO) ?_;clear sc d1;with_reducible repeat' first|constructor|intro hc;try simp only[A3] at hc
 have d1:=Ds.mk [3,4,5,6,10] (cE);have sc : No 3:=trivial;refine wd B2 [] [(2,4),(3,4)] A1 (Ao @cR @cD) ?_;clear sc d1;with_reducible repeat' first|constructor|intro hc;try simp only[A3] at hc
 refine ⟨_,_,rfl,rfl,?_⟩;simp [AE,A6,A5,A4]
end Nd
end Go.Proofs.YtnahkfkljohjaaaGreatDoor
