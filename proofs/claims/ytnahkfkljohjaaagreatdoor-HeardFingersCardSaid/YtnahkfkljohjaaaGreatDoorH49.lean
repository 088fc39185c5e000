/- Part 49 of the texts of this proof, put together by a program and made short.
Conditions: none; what each theorem asks stands in its own hypotheses. -/
import Derived.Test.YtnahkfkljohjaaaGreatDoorH45
import Derived.Ground.SlgfProg
import Derived.Lib.SliceRun
import Derived.Shelf.SlicesE.DeleteFunc
import Derived.Sort.Walk0
import Derived.KernelRfl
import Derived.RangeFuncIn
import Derived.OpenShut
import Derived.ProofKit
import Derived.CallsIn
import Derived.RangeFuncLeaves
import Derived.OrdersIn
import Derived.TacticsIn
import Derived.ChangeKeysEq
import Derived.Laws.AppendOwn
import Derived.Laws.OwnMore
import Derived.Laws.MakeOwn
import Derived.Laws.Rows
import Derived.Laws.Cells
import Derived.Laws.Tables
import Derived.Laws.CopyRow
import Derived.Laws.Strings
import Derived.Laws.IdiomStrings
import Derived.Laws.BytesArg
import Derived.Sort.Grow
import Derived.Laws.Cover3
import Derived.RecoverIn
import Derived.Test.YtnahkfkljohjaaaGreatDoorProg
set_option linter.unusedSimpArgs false
set_option linter.unusedVariables false
set_option linter.unnecessarySimpa false
set_option maxHeartbeats 40000000
namespace Go.Proofs.YtnahkfkljohjaaaGreatDoor
namespace Nd
open Go.Gar
open Wi (A8 B0 Ak AX B8 mC)
set_option maxRecDepth 4000
abbrev Mk : List Nat:=[0,1,2,3,4,5,36,41,54]
abbrev B9 : List Nat:=[0,1,2,3,4,5,6,7,29,34,44,50,60,65,74,83,102]
theorem Qx (v : View) : R0 v v = true:=by unfold R0;simp
theorem PL (n : Node) (h : Cs n) : Go.Gar.Fn Tryz.prog 19 [n.d,n.d] (.b true):=by
 have cV:=TI n.view n.view (by have:=h.vb;omega) (by have:=h.vl;omega)
 rw [Qx] at cV
 have cC:=QA n.calls h.cl h.cn
 have cS:=Ug n.seen h.sl h.sn
 have c5:=Ah n.finger h.fl
 have c6:=Ah n.mirror h.ml
 have c7:=Ah n.client h.tl
 have hkn:=h.kn
 have f1:=Cd (n.keep.length : Int)
 have f2:=Cd n.clock
 have f3 : Cy [.i .u8 n.phase,.i .i64 n.of_] [.i .u8 n.phase,.i .i64 n.of_] = true:=by simp [Cy,eq1]
 have f4:=Cd n.next
 have f5:=Cd n.last
 have f6:=Cd n.bad
 clear h
 refine A0 AB Tryz.func19 rfl rfl (Nat.le_of_ble_eq_true rfl) ?_
 unfold View.d Calls.d Job.d at *
 unfold Node.d Node.cells View.cells Calls.cells Job.cells at *
 simp only [List.cons_append,List.nil_append] at *
 refine wd Mk [] [] (AD f1) (Bo @cV @cC @cS) ?_;with_reducible repeat' first|constructor|intro hc;try simp only[A3] at hc
 refine B1 (fun k => k ≤ n.keep.length) (fun k : Nat => [(5,.d (.i .i64 k))]) (fun k => n.keep.length - k) 0 (Nat.zero_le _) (fun _ => rfl) ?_ ?_
 ·exact A2.ck rfl
 rintro k hk
 by_cases hkl : k < n.keep.length
 ·obtain ⟨x,hx⟩:=AR hkl
  have g1 : Cy x.cells x.cells = true:=by unfold Item.cells;simp [Cy,eq1]
  unfold Item.cells at g1
  have ix1:=hx;refine wd Mk [] [] (AD g1) A1 ?_;clear ix1;with_reducible repeat' first|constructor|intro hc;try simp only[A3] at hc
  refine ⟨k + 1,hkl,by omega,Nat.le_refl _,?_⟩
  exact A2.ck rfl
 ·have e : k = n.keep.length:=by omega
  subst e
  refine wd Mk [] [] (IF f2 f3 f4 f5 f6) (Bo @c5 @c6 @c7) ?_;with_reducible repeat' first|constructor|intro hc;try simp only[A3] at hc
  refine ⟨_,_,rfl,rfl,?_⟩;simp [AE,A6,A5,A4]
theorem YP (l : List Item) (key : List UInt8) (hn : l.length ≤ 1048576) (h : Bd l = true) (hh : hasK l key = true) : Go.Gar.Fn Tryz.prog 16 [AZ l,.s key] (.tup [(Di l key).1.d,.i .i64 (Di l key).2]):=by
 have c1:=OA l (by omega)
 rw [h] at c1
 have hT : Di l key = if Bd l && hasK l key then (l.getD (BX l key) AP,0) else (AP,201):=rfl
 rw [h,hh] at hT
 obtain ⟨x,hx,hxk,hxg⟩:=Fz hh
 rw [hxg] at hT
 rw [hT]
 have hs:=(FQ key l (Ch.1 h).2.2).1
 generalize BX l key = m at *
 have hml : m < l.length:=(List.getElem?_eq_some_iff.1 hx).1
 refine A0 AB Tryz.func16 rfl rfl (Nat.le_of_ble_eq_true rfl) ?_
 refine wk [0,1,4,5,6,14,23] [] A1 A1 ?_;with_reducible repeat' first|constructor|intro hc;try simp only[A3] at hc
 refine B1 (fun k => k ≤ m) (fun k : Nat => [(6,.d (.i .i64 k))]) (fun k => l.length - k) 0 (Nat.zero_le _) (fun _ => rfl) ?_ ?_
 ·exact A2.ck rfl
 rintro k hk
 have hkl : k < l.length:=by omega
 by_cases hkm : k < m
 ·obtain ⟨y,hy⟩:=AR hkl
  have hyk : y.key < key:=hs y (List.mem_of_getElem? (l:=l.take m) (i:=k) (by rw [List.getElem?_take,if_pos hkm];exact hy))
  have f1 : (y.key == key) = false:=by
   rw [beq_eq_false_iff_ne]
   rintro rfl
   exact List.lt_irrefl _ hyk
  have ix1:=hy;refine wk [0,1,4,5,6,14,23] [] (AD f1) (AD @c1) ?_;clear ix1;with_reducible repeat' first|constructor|intro hc;try simp only[A3] at hc
  refine ⟨k + 1,hkm,by omega,Nat.le_refl _,?_⟩
  exact A2.ck rfl
 ·have e : k = m:=by omega
  subst e
  have f1 : (x.key == key) = true:=by rw [hxk];exact Cd _
  have ix1:=hx;refine wk [0,1,4,5,6,14,23] [] (AD f1) (AD @c1) ?_;clear ix1;with_reducible repeat' first|constructor|intro hc;try simp only[A3] at hc
  refine ⟨_,_,rfl,rfl,?_⟩;simp [AE,A6,A5,A4,Item.d,Item.cells]
def Bc (m : A8) : Bool:=decide (40 < m.list.length) || decide (300 < m.item.key.length)
def NQ (j : Job) : Bool:=decide (40 < j.left.length) || decide (300 < j.item.key.length)
theorem BL (m : A8) : Go.Gar.Fn Tryz.prog 8 [m.d] (.b (Bc m)):=by
 refine A0 AB Tryz.func8 rfl rfl (Nat.le_of_ble_eq_true rfl) ?_
 unfold Bc Wi.A8.d Wi.A8.cells
 by_cases h1 : 40 < m.list.length
 ·have f1 : decide ((m.list.length : Int) > 40) = true:=decide_eq_true (by omega)
  rw [decide_eq_true h1,Bool.true_or]
  refine wk [0,1,2] [] (AD f1) A1 ?_;with_reducible repeat' first|constructor|intro hc;try simp only[A3] at hc
  refine ⟨_,_,rfl,rfl,?_⟩;simp [AE,A6,A5,A4]
 ·have f1 : decide ((m.list.length : Int) > 40) = false:=decide_eq_false (by omega)
  rw [decide_eq_false h1,Bool.false_or]
  by_cases h2 : 300 < m.item.key.length
  ·have f2 : decide ((m.item.key.length : Int) > 300) = true:=decide_eq_true (by omega)
   rw [decide_eq_true h2]
   refine wk [0,1,2] [] (Ao f1 f2) A1 ?_;with_reducible repeat' first|constructor|intro hc;try simp only[A3] at hc
   refine ⟨_,_,rfl,rfl,?_⟩;simp [AE,A6,A5,A4]
  ·have f2 : decide ((m.item.key.length : Int) > 300) = false:=decide_eq_false (by omega)
   rw [decide_eq_false h2]
   refine wk [0,1,2] [] (Ao f1 f2) A1 ?_;with_reducible repeat' first|constructor|intro hc;try simp only[A3] at hc
   refine ⟨_,_,rfl,rfl,?_⟩;simp [AE,A6,A5,A4]
theorem O2 (v : View) : Go.Gar.Fn Tryz.prog 22 [v.d] (.b (decide (20 < v.base.length) || decide (20 < v.list.length))):=by
 refine A0 AB Tryz.func22 rfl rfl (Nat.le_of_ble_eq_true rfl) ?_
 unfold View.d View.cells
 by_cases h1 : 20 < v.base.length
 ·have f1 : decide ((v.base.length : Int) > 20) = true:=decide_eq_true (by omega)
  rw [decide_eq_true h1,Bool.true_or]
  refine wk [0,1,2] [] (AD f1) A1 ?_;with_reducible repeat' first|constructor|intro hc;try simp only[A3] at hc
  refine ⟨_,_,rfl,rfl,?_⟩;simp [AE,A6,A5,A4]
 ·have f1 : decide ((v.base.length : Int) > 20) = false:=decide_eq_false (by omega)
  rw [decide_eq_false h1,Bool.false_or]
  by_cases h2 : 20 < v.list.length
  ·have f2 : decide ((v.list.length : Int) > 20) = true:=decide_eq_true (by omega)
   rw [decide_eq_true h2]
   refine wk [0,1,2] [] (Ao f1 f2) A1 ?_;with_reducible repeat' first|constructor|intro hc;try simp only[A3] at hc
   refine ⟨_,_,rfl,rfl,?_⟩;simp [AE,A6,A5,A4]
  ·have f2 : decide ((v.list.length : Int) > 20) = false:=decide_eq_false (by omega)
   rw [decide_eq_false h2]
   refine wk [0,1,2] [] (Ao f1 f2) A1 ?_;with_reducible repeat' first|constructor|intro hc;try simp only[A3] at hc
   refine ⟨_,_,rfl,rfl,?_⟩;simp [AE,A6,A5,A4]
def D8 (n : Node) : Bool:=((decide (20 < n.view.base.length) || decide (20 < n.view.list.length)) || (decide (60 < n.seen.length) || (decide (40 < n.calls.op.length) || decide (60 < n.keep.length)))) || (n.keep.any (fun x => decide (300 < x.key.length)) || (n.calls.op.any (fun x => Bc x.msg) || (n.seen.any (fun x => Bc x.told) || (NQ n.finger || (NQ n.mirror || NQ n.client)))))
theorem MQ (n : Node) : D8 n = (((decide (20 < n.view.base.length) || decide (20 < n.view.list.length)) || (decide (60 < n.seen.length) || (decide (40 < n.calls.op.length) || decide (60 < n.keep.length)))) || (n.keep.any (fun x => decide (300 < x.key.length)) || (n.calls.op.any (fun x => Bc x.msg) || (n.seen.any (fun x => Bc x.told) || (NQ n.finger || (NQ n.mirror || NQ n.client)))))):=rfl
theorem CZ (n : Node) : Go.Gar.Fn Tryz.prog 7 [n.d] (.b (D8 n)):=by
 have hT:=MQ n
 generalize D8 n = R at *
 have cV:=O2 n.view
 refine A0 AB Tryz.func7 rfl rfl (Nat.le_of_ble_eq_true rfl) ?_
 by_cases h0 : n.view.base.length ≤ 20 ∧ n.view.list.length ≤ 20 ∧ n.seen.length ≤ 60 ∧ n.calls.op.length ≤ 40 ∧ n.keep.length ≤ 60
 case neg =>
  have hR : R = true:=by
   rw [hT]
   have : ((decide (20 < n.view.base.length) || decide (20 < n.view.list.length)) || (decide (60 < n.seen.length) || (decide (40 < n.calls.op.length) || decide (60 < n.keep.length)))) = true:=by
    simp only [Bool.or_eq_true,decide_eq_true_eq];omega
   rw [this];rfl
  subst hR
  clear hT
  by_cases h1 : 20 < n.view.base.length ∨ 20 < n.view.list.length
  ·have : (decide (20 < n.view.base.length) || decide (20 < n.view.list.length)) = true:=by simp only [Bool.or_eq_true,decide_eq_true_eq];exact h1
   rw [this] at cV
   unfold View.d View.cells at cV
   unfold Node.d Node.cells View.cells Calls.cells Job.cells
   refine wk B9 [] A1 (AD @cV) ?_;with_reducible repeat' first|constructor|intro hc;try simp only[A3] at hc
   refine ⟨_,_,rfl,rfl,?_⟩;simp [AE,A6,A5,A4]
  ·have : (decide (20 < n.view.base.length) || decide (20 < n.view.list.length)) = false:=by simp only [Bool.or_eq_false_iff,decide_eq_false_iff_not];omega
   rw [this] at cV
   unfold View.d View.cells at cV
   unfold Node.d Node.cells View.cells Calls.cells Job.cells
   by_cases h2 : 60 < n.seen.length
   ·have g1 : decide ((n.seen.length : Int) > 60) = true:=decide_eq_true (by omega)
    refine wk B9 [] (AD g1) (AD @cV) ?_;with_reducible repeat' first|constructor|intro hc;try simp only[A3] at hc
    refine ⟨_,_,rfl,rfl,?_⟩;simp [AE,A6,A5,A4]
   have g1 : decide ((n.seen.length : Int) > 60) = false:=decide_eq_false (by omega)
   by_cases h3 : 40 < n.calls.op.length
   ·have g2 : decide ((n.calls.op.length : Int) > 40) = true:=decide_eq_true (by omega)
    refine wk B9 [] (Ao g1 g2) (AD @cV) ?_;with_reducible repeat' first|constructor|intro hc;try simp only[A3] at hc
    refine ⟨_,_,rfl,rfl,?_⟩;simp [AE,A6,A5,A4]
   have g2 : decide ((n.calls.op.length : Int) > 40) = false:=decide_eq_false (by omega)
   have g3 : decide ((n.keep.length : Int) > 60) = true:=decide_eq_true (by omega)
   refine wk B9 [] (Bo g1 g2 g3) (AD @cV) ?_;with_reducible repeat' first|constructor|intro hc;try simp only[A3] at hc
   refine ⟨_,_,rfl,rfl,?_⟩;simp [AE,A6,A5,A4]
 case pos =>
 obtain ⟨b1,b2,b3,b4,b5⟩:=h0
 have g1 : decide ((n.seen.length : Int) > 60) = false:=decide_eq_false (by omega)
 have g2 : decide ((n.calls.op.length : Int) > 40) = false:=decide_eq_false (by omega)
 have g3 : decide ((n.keep.length : Int) > 60) = false:=decide_eq_false (by omega)
 rw [decide_eq_false (by omega),decide_eq_false (by omega),decide_eq_false (by omega),decide_eq_false (by omega),decide_eq_false (by omega)] at hT
 simp only [Bool.false_or] at hT
 have : (decide (20 < n.view.base.length) || decide (20 < n.view.list.length)) = false:=by simp only [Bool.or_eq_false_iff,decide_eq_false_iff_not];omega
 rw [this] at cV
 unfold View.d View.cells at cV
 unfold Node.d Node.cells View.cells Calls.cells Job.cells
 simp only [List.cons_append,List.nil_append]
 refine wk B9 [] (Bo g1 g2 g3) (AD @cV) ?_;with_reducible repeat' first|constructor|intro hc;try simp only[A3] at hc
 clear cV g1 g2 g3
 refine B1 (fun k => k ≤ n.keep.length ∧ (n.keep.take k).any (fun x => decide (300 < x.key.length)) = false) (fun k : Nat => [(3,.d (.i .i64 k))]) (fun k => n.keep.length - k) 0 ⟨Nat.zero_le _,rfl⟩ (fun _ => rfl) ?_ ?_
 ·exact A2.ck rfl
 rintro k ⟨hk,hpre⟩
 by_cases hkl : k < n.keep.length
 ·obtain ⟨x,hx⟩:=AR hkl
  have hA:=EY (p:=fun x : Item => decide (300 < x.key.length)) hx
  rw [hpre,Bool.false_or] at hA
  by_cases hl : 300 < x.key.length
  ·have f5 : decide ((x.key.length : Int) > 300) = true:=decide_eq_true (by omega)
   have hR : R = true:=by rw [hT,IL hx (decide_eq_true hl)];rfl
   subst hR
   clear hT hA
   have ix1:=hx;refine wk B9 [] (AD f5) A1 ?_;clear ix1;with_reducible repeat' first|constructor|intro hc;try simp only[A3] at hc
   refine ⟨_,_,rfl,rfl,?_⟩;simp [AE,A6,A5,A4]
  ·have f5 : decide ((x.key.length : Int) > 300) = false:=decide_eq_false (by omega)
   have ix1:=hx;refine wk B9 [] (AD f5) A1 ?_;clear ix1;with_reducible repeat' first|constructor|intro hc;try simp only[A3] at hc
   refine ⟨k + 1,⟨hkl,by rw [hA];exact decide_eq_false hl⟩,by omega,Nat.le_refl _,?_⟩
   exact A2.ck rfl
 have e : k = n.keep.length:=by omega
 subst e
 rw [List.take_length] at hpre
 rw [hpre,Bool.false_or] at hT
 clear hkl hk hpre
 refine wk B9 [] A1 A1 ?_;with_reducible repeat' first|constructor|intro hc;try simp only[A3] at hc
 refine B1 (fun k => k ≤ n.calls.op.length ∧ (n.calls.op.take k).any (fun x => Bc x.msg) = false) (fun k : Nat => [(4,.d (.i .i64 k))]) (fun k => n.calls.op.length - k) 0 ⟨Nat.zero_le _,rfl⟩ (fun _ => rfl) ?_ ?_
 ·exact A2.ck rfl
 rintro k ⟨hk,hpre⟩
 by_cases hkl : k < n.calls.op.length
 ·obtain ⟨x,hx⟩:=AR hkl
  have hA:=EY (p:=fun x : Call => Bc x.msg) hx
  rw [hpre,Bool.false_or] at hA
  have c1:=BL x.msg
  unfold Wi.A8.d Wi.A8.cells at c1
  cases hl : Bc x.msg with
  | true =>
   rw [hl] at c1
   have hR : R = true:=by rw [hT,IL hx hl];rfl
   subst hR
   clear hT hA
   have ix1:=hx;refine wk B9 [] A1 (AD @c1) ?_;clear ix1;with_reducible repeat' first|constructor|intro hc;try simp only[A3] at hc
   refine ⟨_,_,rfl,rfl,?_⟩;simp [AE,A6,A5,A4]
  | false =>
   rw [hl] at c1
   have ix1:=hx;refine wk B9 [] A1 (AD @c1) ?_;clear ix1;with_reducible repeat' first|constructor|intro hc;try simp only[A3] at hc
   refine ⟨k + 1,⟨hkl,by rw [hA];exact hl⟩,by omega,Nat.le_refl _,?_⟩
   exact A2.ck rfl
 have e : k = n.calls.op.length:=by omega
 subst e
 rw [List.take_length] at hpre
 rw [hpre,Bool.false_or] at hT
 clear hkl hk hpre
 refine wk B9 [] A1 A1 ?_;with_reducible repeat' first|constructor|intro hc;try simp only[A3] at hc
 refine B1 (fun k => k ≤ n.seen.length ∧ (n.seen.take k).any (fun x => Bc x.told) = false) (fun k : Nat => [(5,.d (.i .i64 k))]) (fun k => n.seen.length - k) 0 ⟨Nat.zero_le _,rfl⟩ (fun _ => rfl) ?_ ?_
 ·exact A2.ck rfl
 rintro k ⟨hk,hpre⟩
 by_cases hkl : k < n.seen.length
 ·obtain ⟨x,hx⟩:=AR hkl
  have hA:=EY (p:=fun x : Past => Bc x.told) hx
  rw [hpre,Bool.false_or] at hA
  have c1:=BL x.told
  unfold Wi.A8.d Wi.A8.cells at c1
  cases hl : Bc x.told with
  | true =>
   rw [hl] at c1
   have hR : R = true:=by rw [hT,IL hx hl];rfl
   subst hR
   clear hT hA
   have ix1:=hx;refine wk B9 [] A1 (AD @c1) ?_;clear ix1;with_reducible repeat' first|constructor|intro hc;try simp only[A3] at hc
   refine ⟨_,_,rfl,rfl,?_⟩;simp [AE,A6,A5,A4]
  | false =>
   rw [hl] at c1
   have ix1:=hx;refine wk B9 [] A1 (AD @c1) ?_;clear ix1;with_reducible repeat' first|constructor|intro hc;try simp only[A3] at hc
   refine ⟨k + 1,⟨hkl,by rw [hA];exact hl⟩,by omega,Nat.le_refl _,?_⟩
   exact A2.ck rfl
 have e : k = n.seen.length:=by omega
 subst e
 rw [List.take_length] at hpre
 rw [hpre,Bool.false_or] at hT
 clear hkl hk hpre b1 b2 b3 b4 b5
 unfold NQ at hT
 have kk : ∀ (l : List Int),decide ((l.length : Int) > 40) = decide (40 < l.length):=fun l => by apply decide_eq_decide.2;omega
 have kl : ∀ (l : List UInt8),decide ((l.length : Int) > 300) = decide (300 < l.length):=fun l => by apply decide_eq_decide.2;omega
 rw [← kk,← kk,← kk,← kl,← kl,← kl] at hT
 clear kk kl
 obtain ⟨u1,hu1⟩ : ∃ u,decide ((n.finger.left.length : Int) > 40) = u:=⟨_,rfl⟩
 obtain ⟨u2,hu2⟩ : ∃ u,decide ((n.finger.item.key.length : Int) > 300) = u:=⟨_,rfl⟩
 obtain ⟨u3,hu3⟩ : ∃ u,decide ((n.mirror.left.length : Int) > 40) = u:=⟨_,rfl⟩
 obtain ⟨u4,hu4⟩ : ∃ u,decide ((n.mirror.item.key.length : Int) > 300) = u:=⟨_,rfl⟩
 obtain ⟨u5,hu5⟩ : ∃ u,decide ((n.client.left.length : Int) > 40) = u:=⟨_,rfl⟩
 obtain ⟨u6,hu6⟩ : ∃ u,decide ((n.client.item.key.length : Int) > 300) = u:=⟨_,rfl⟩
 rw [hu1,hu2,hu3,hu4,hu5,hu6] at hT
 cases u1 with
 | true =>
  have hR : R = true:=by rw [hT];simp
  subst hR
  clear hT
  refine wk B9 [] A1 A1 ?_;with_reducible repeat' first|constructor|intro hc;try simp only[A3] at hc
  refine EO 4 ?_
  refine wk B9 [] (Pe hu1 hu2 hu3 hu4 hu5 hu6) A1 ?_;with_reducible repeat' first|constructor|intro hc;try simp only[A3] at hc
  refine ⟨_,_,rfl,rfl,?_⟩;simp [AE,A6,A5,A4]
 | false =>
  cases u2 with
  | true =>
   have hR : R = true:=by rw [hT];simp
   subst hR
   clear hT
   refine wk B9 [] A1 A1 ?_;with_reducible repeat' first|constructor|intro hc;try simp only[A3] at hc
   refine EO 4 ?_
   refine wk B9 [] (Pe hu1 hu2 hu3 hu4 hu5 hu6) A1 ?_;with_reducible repeat' first|constructor|intro hc;try simp only[A3] at hc
   refine ⟨_,_,rfl,rfl,?_⟩;simp [AE,A6,A5,A4]
  | false =>
   cases u3 with
   | true =>
    have hR : R = true:=by rw [hT];simp
    subst hR
    clear hT
    refine wk B9 [] A1 A1 ?_;with_reducible repeat' first|constructor|intro hc;try simp only[A3] at hc
    refine EO 4 ?_
    refine wk B9 [] (Pe hu1 hu2 hu3 hu4 hu5 hu6) A1 ?_;with_reducible repeat' first|constructor|intro hc;try simp only[A3] at hc
    refine ⟨_,_,rfl,rfl,?_⟩;simp [AE,A6,A5,A4]
   | false =>
    cases u4 with
    | true =>
     have hR : R = true:=by rw [hT];simp
     subst hR
     clear hT
     refine wk B9 [] A1 A1 ?_;with_reducible repeat' first|constructor|intro hc;try simp only[A3] at hc
     refine EO 4 ?_
     refine wk B9 [] (Pe hu1 hu2 hu3 hu4 hu5 hu6) A1 ?_;with_reducible repeat' first|constructor|intro hc;try simp only[A3] at hc
     refine ⟨_,_,rfl,rfl,?_⟩;simp [AE,A6,A5,A4]
    | false =>
     cases u5 with
     | true =>
      have hR : R = true:=by rw [hT];simp
      subst hR
      clear hT
      refine wk B9 [] A1 A1 ?_;with_reducible repeat' first|constructor|intro hc;try simp only[A3] at hc
      refine EO 4 ?_
      refine wk B9 [] (Pe hu1 hu2 hu3 hu4 hu5 hu6) A1 ?_;with_reducible repeat' first|constructor|intro hc;try simp only[A3] at hc
      refine ⟨_,_,rfl,rfl,?_⟩;simp [AE,A6,A5,A4]
     | false =>
      cases u6 with
      | true =>
       have hR : R = true:=by rw [hT];simp
       subst hR
       clear hT
       refine wk B9 [] A1 A1 ?_;with_reducible repeat' first|constructor|intro hc;try simp only[A3] at hc
       refine EO 4 ?_
       refine wk B9 [] (Pe hu1 hu2 hu3 hu4 hu5 hu6) A1 ?_;with_reducible repeat' first|constructor|intro hc;try simp only[A3] at hc
       refine ⟨_,_,rfl,rfl,?_⟩;simp [AE,A6,A5,A4]
      | false =>
       have hR : R = false:=by rw [hT];rfl
       subst hR
       clear hT
       refine wk B9 [] A1 A1 ?_;with_reducible repeat' first|constructor|intro hc;try simp only[A3] at hc
       refine EO 4 ?_
       refine wk B9 [] (Pe hu1 hu2 hu3 hu4 hu5 hu6) A1 ?_;with_reducible repeat' first|constructor|intro hc;try simp only[A3] at hc
       refine ⟨_,_,rfl,rfl,?_⟩;simp [AE,A6,A5,A4]
end Nd
end Go.Proofs.YtnahkfkljohjaaaGreatDoor
