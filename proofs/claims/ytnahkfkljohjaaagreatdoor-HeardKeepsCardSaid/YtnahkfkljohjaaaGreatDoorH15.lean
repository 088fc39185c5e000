/- Part 15 of the texts of this proof, put together by a program and made short.
Conditions: none; what each theorem asks stands in its own hypotheses. -/
import Derived.Test.YtnahkfkljohjaaaGreatDoorH13
import Derived.KernelRfl
import Derived.RangeFuncIn
import Derived.OpenShut
import Derived.ProofKit
import Derived.CallsIn
import Derived.RangeFuncLeaves
import Derived.OrdersIn
import Derived.TacticsIn
import Derived.ChangeKeysEq
import Derived.Laws.AppendOwn
import Derived.Laws.OwnMore
import Derived.Laws.MakeOwn
import Derived.Laws.Rows
import Derived.Laws.Cells
import Derived.Laws.Tables
import Derived.Laws.CopyRow
import Derived.Laws.Strings
import Derived.Laws.IdiomStrings
import Derived.Laws.BytesArg
import Derived.Sort.Grow
import Derived.Laws.Cover3
import Derived.RecoverIn
import Derived.Test.YtnahkfkljohjaaaGreatDoorProg
set_option linter.unusedSimpArgs false
set_option linter.unusedVariables false
set_option linter.unnecessarySimpa false
set_option maxHeartbeats 40000000
namespace Go.Proofs.YtnahkfkljohjaaaGreatDoor
open Go.Gar
set_option maxRecDepth 4000
abbrev Bi : List Nat:=[0,1,2,3,21,23,24,37]
def vC (id : Int) (base list : List Int) (pred : Int) (f : Nat → Int) : List AV:=[.d (.i .i64 id),.d (.is base),.d (.is list),.d (.i .i64 pred),.d (.i .i64 (f 0)),.d (.i .i64 (f 1)),.d (.i .i64 (f 2)),.d (.i .i64 (f 3)),.d (.i .i64 (f 4)),.d (.i .i64 (f 5)),.d (.i .i64 (f 6)),.d (.i .i64 (f 7)),.d (.i .i64 (f 8)),.d (.i .i64 (f 9)),.d (.i .i64 (f 10)),.d (.i .i64 (f 11)),.d (.i .i64 (f 12)),.d (.i .i64 (f 13)),.d (.i .i64 (f 14)),.d (.i .i64 (f 15))]
theorem Xv (id : Int) (base list : List Int) (pred : Int) (f : Nat → Int) : B4 Tryz.prog 132 [.d (View.d ⟨id,base,list,pred,f⟩)] [] (.fn (.func 184) [] [.ptr 0 0 20]) [.c [.d (.i .i64 id),.d (.is base),.d (.is list),.d (.i .i64 pred),.d (.i .i64 (f 0)),.d (.i .i64 (f 1)),.d (.i .i64 (f 2)),.d (.i .i64 (f 3)),.d (.i .i64 (f 4)),.d (.i .i64 (f 5)),.d (.i .i64 (f 6)),.d (.i .i64 (f 7)),.d (.i .i64 (f 8)),.d (.i .i64 (f 9)),.d (.i .i64 (f 10)),.d (.i .i64 (f 11)),.d (.i .i64 (f 12)),.d (.i .i64 (f 13)),.d (.i .i64 (f 14)),.d (.i .i64 (f 15))]]:=by
 refine A7 AB Tryz.func132 rfl rfl (Nat.le_of_ble_eq_true rfl) ?_
 refine wk [0,1,2] [] A1 A1 ?_;with_reducible repeat' first|constructor|intro hc;try simp only[A3] at hc
 exact ⟨_,(A2.ck rfl),Nat.zero_le _,_,_,rfl,rfl,rfl,rfl⟩
theorem L2 (v : View) (hb : v.base.length ≤ 9223372036854775807) (hl : v.list.length ≤ 9223372036854775807) : Go.Gar.Fn Tryz.prog 81 [v.d] (.b (AF v)):=by
 obtain ⟨id,base,list,pred,f⟩:=v
 replace hb : base.length ≤ 9223372036854775807:=hb
 replace hl : list.length ≤ 9223372036854775807:=hl
 have c1:=Ej id
 have c2:=Lo base hb
 have c3:=KG id list hl
 have c4:=Ej
 have hR : AF ⟨id,base,list,pred,f⟩ = (((Ag id && Bm base) && BD id list) && (Df id pred && (CL f).all (Df id))):=rfl
 refine A0 AB Tryz.func81 rfl rfl (Nat.le_of_ble_eq_true rfl) ?_
 cases h1 : Ag id with
 | false =>
  rw [h1] at c1 hR
  have sc : No 3:=trivial;refine wk Bi [] A1 (AD @c1) ?_;clear sc;with_reducible repeat' first|constructor|intro hc;try simp only[A3] at hc
  refine ⟨_,_,rfl,rfl,?_⟩;simp [AE,A6,A5,A4,hR]
 | true =>
 rw [h1] at c1 hR
 cases h2 : Bm base with
 | false =>
  rw [h2] at c2 hR
  have sc : No 3:=trivial;refine wk Bi [] A1 (Ao @c1 @c2) ?_;clear sc;with_reducible repeat' first|constructor|intro hc;try simp only[A3] at hc
  refine ⟨_,_,rfl,rfl,?_⟩;simp [AE,A6,A5,A4,hR]
 | true =>
 rw [h2] at c2 hR
 cases h3 : BD id list with
 | false =>
  rw [h3] at c3 hR
  have sc : No 3:=trivial;refine wk Bi [] A1 (Bo @c1 @c2 @c3) ?_;clear sc;with_reducible repeat' first|constructor|intro hc;try simp only[A3] at hc
  refine ⟨_,_,rfl,rfl,?_⟩;simp [AE,A6,A5,A4,hR]
 | true =>
 rw [h3] at c3 hR
 simp only [Bool.and_self,Bool.true_and] at hR
 have d1:=Ds.mk [] (Xv id base list pred f);have sc : No 3:=trivial;refine wk Bi [] A1 (Bo @c1 @c2 @c3) ?_;clear sc d1;with_reducible repeat' first|constructor|intro hc;try simp only[A3] at hc
 refine Aq (K:=fun r _ H' => ((Df id pred && (CL f).all (Df id)) = true ∧ H' = [.c (vC id base list pred f),.c (vC id base list pred f),.lp r]) ∨
  ((Df id pred && (CL f).all (Df id)) = false ∧ H' = [.c (vC id base list pred f),.c (vC id base list pred f),.lp (r.left (.goto 0))])) rfl (by first | (simp only [AL,AJ,Nat.reduceAdd,Int.reduceAdd,Int.reduceSub,Int.reduceMul,Int.reduceToNat];done) | (simp only [AL,AJ,Nat.reduceAdd,Int.reduceAdd,Int.reduceSub,Int.reduceMul,Int.reduceToNat];rfl) | rfl) (by first | (simp only [AL,AJ,Nat.reduceAdd,Int.reduceAdd,Int.reduceSub,Int.reduceMul,Int.reduceToNat];done) | (simp only [AL,AJ,Nat.reduceAdd,Int.reduceAdd,Int.reduceSub,Int.reduceMul,Int.reduceToNat];rfl) | rfl) (fun r => rfl) ?_ ?_
 ·intro r hr
  have hT : ∀ n,Df id n = true → YT Tryz.prog 2 [.d (.i .i64 n)] [.c (vC id base list pred f),.c (vC id base list pred f),.lp r] fun x K => x = .d (.b true) ∧ K = [.c (vC id base list pred f),.c (vC id base list pred f),.lp r]:=by
   intro n hn
   have d1:=Ej n
   unfold vC
   refine Aj hr rfl rfl rfl ?_
   by_cases h5 : n = -1
   ·have f1:=AO h5
    have sc : No 3:=trivial;refine wk Bi [] A1 A1 ?_;clear sc;with_reducible repeat' first|constructor|intro hc;try simp only[A3] at hc
    refine ⟨rfl,Bl (by first | (simp only [AL,AJ,Nat.reduceAdd,Int.reduceAdd,Int.reduceSub,Int.reduceMul,Int.reduceToNat];done) | (simp only [AL,AJ,Nat.reduceAdd,Int.reduceAdd,Int.reduceSub,Int.reduceMul,Int.reduceToNat];rfl) | rfl) ?_⟩
    have sc : No 3:=trivial;refine wk Bi [] (AD f1) A1 ?_;clear sc;with_reducible repeat' first|constructor|intro hc;try simp only[A3] at hc
    exact ⟨_,A2.refl _,Nat.le_refl _,rfl,rfl,rfl⟩
   ·have f1:=BJ h5
    simp only [Df,h5,decide_false,Bool.false_or,Bool.and_eq_true,decide_eq_true_eq] at hn
    rw [hn.1] at d1
    have f2:=eq_false' hn.2
    have sc : No 3:=trivial;refine wk Bi [] A1 A1 ?_;clear sc;with_reducible repeat' first|constructor|intro hc;try simp only[A3] at hc
    refine ⟨rfl,Bl (by first | (simp only [AL,AJ,Nat.reduceAdd,Int.reduceAdd,Int.reduceSub,Int.reduceMul,Int.reduceToNat];done) | (simp only [AL,AJ,Nat.reduceAdd,Int.reduceAdd,Int.reduceSub,Int.reduceMul,Int.reduceToNat];rfl) | rfl) ?_⟩
    have sc : No 3:=trivial;refine wk Bi [] (Ao f1 f2) (AD @d1) ?_;clear sc;with_reducible repeat' first|constructor|intro hc;try simp only[A3] at hc
    exact ⟨_,A2.refl _,Nat.le_refl _,rfl,rfl,rfl⟩
  have hF : ∀ n,Df id n = false → YT Tryz.prog 2 [.d (.i .i64 n)] [.c (vC id base list pred f),.c (vC id base list pred f),.lp r] fun x K => x = .d (.b false) ∧ K = [.c (vC id base list pred f),.c (vC id base list pred f),.lp (r.left (.goto 0))]:=by
   intro n hn
   have d1:=Ej n
   unfold vC
   refine Aj hr rfl rfl rfl ?_
   have h5 : n ≠ -1:=fun h => by subst h;simp [Df] at hn
   have f1:=BJ h5
   simp only [Df,h5,decide_false,Bool.false_or,Bool.and_eq_false_iff,decide_eq_false_iff_not,ne_eq,Classical.not_not] at hn
   cases hp : Ag n with
   | false =>
    rw [hp] at d1
    have sc : No 3:=trivial;refine wk Bi [] A1 A1 ?_;clear sc;with_reducible repeat' first|constructor|intro hc;try simp only[A3] at hc
    refine ⟨rfl,Bl (by first | (simp only [AL,AJ,Nat.reduceAdd,Int.reduceAdd,Int.reduceSub,Int.reduceMul,Int.reduceToNat];done) | (simp only [AL,AJ,Nat.reduceAdd,Int.reduceAdd,Int.reduceSub,Int.reduceMul,Int.reduceToNat];rfl) | rfl) ?_⟩
    have sc : No 3:=trivial;refine wk Bi [] (AD f1) (AD @d1) ?_;clear sc;with_reducible repeat' first|constructor|intro hc;try simp only[A3] at hc
    exact ⟨_,A2.refl _,Nat.le_refl _,rfl,rfl,rfl⟩
   | true =>
    rw [hp] at d1 hn
    have f2:=AA (hn.resolve_left (fun h => by cases h))
    have sc : No 3:=trivial;refine wk Bi [] A1 A1 ?_;clear sc;with_reducible repeat' first|constructor|intro hc;try simp only[A3] at hc
    refine ⟨rfl,Bl (by first | (simp only [AL,AJ,Nat.reduceAdd,Int.reduceAdd,Int.reduceSub,Int.reduceMul,Int.reduceToNat];done) | (simp only [AL,AJ,Nat.reduceAdd,Int.reduceAdd,Int.reduceSub,Int.reduceMul,Int.reduceToNat];rfl) | rfl) ?_⟩
    have sc : No 3:=trivial;refine wk Bi [] (Ao f1 f2) (AD @d1) ?_;clear sc;with_reducible repeat' first|constructor|intro hc;try simp only[A3] at hc
    exact ⟨_,A2.refl _,Nat.le_refl _,rfl,rfl,rfl⟩
  refine Ap AB Tryz.func184 rfl rfl (Nat.le_of_ble_eq_true rfl) ?_
  unfold vC at *
  have g1T:=@hT;have g1F:=@hF;have un : No 17:=trivial;refine wk [0,1,4,9,11,12,13,18] [] A1 A1 ?_;clear un g1F g1T;with_reducible repeat' first|constructor|intro hc;try simp only[A3] at hc
  all_goals first
   | exact ⟨_,A2.refl _,Nat.le_refl _,_,_,rfl,rfl,.inl ⟨by rw [f_all];simp only [*,Bool.and_self],rfl⟩⟩
   | exact ⟨_,A2.refl _,Nat.le_refl _,_,_,rfl,rfl,.inr ⟨by rw [f_all];simp only [*,Bool.and_false,Bool.false_and,Bool.and_true,Bool.true_and],rfl⟩⟩
 ·rintro r hr y H' (⟨h,rfl⟩ | ⟨h,rfl⟩)
  ·refine .inl ⟨rfl,?_⟩
   rw [h] at hR
   unfold vC
   have sc : No 3:=trivial;refine wk Bi [] A1 A1 ?_;clear sc;with_reducible repeat' first|constructor|intro hc;try simp only[A3] at hc
   refine ⟨_,_,rfl,rfl,?_⟩;simp [AE,A6,A5,A4,hR]
  ·refine .inr ⟨.goto 0,rfl,?_⟩
   rw [h] at hR
   unfold vC
   have sc : No 3:=trivial;refine wk Bi [] A1 A1 ?_;clear sc;with_reducible repeat' first|constructor|intro hc;try simp only[A3] at hc
   refine ⟨_,_,rfl,rfl,?_⟩;simp [AE,A6,A5,A4,hR]
theorem Am (v : View) (hb : v.base.length ≤ 1000) (hl : v.list.length ≤ 1000) : Go.Gar.Fn Tryz.prog 81 [v.d] (.b (AF v)):=L2 v (Nat.le_trans hb (by decide)) (Nat.le_trans hl (by decide))
theorem fE (f g : Nat → Int) : Cy [.i .i64 (f 0),.i .i64 (f 1),.i .i64 (f 2),.i .i64 (f 3),.i .i64 (f 4),.i .i64 (f 5),.i .i64 (f 6),.i .i64 (f 7),.i .i64 (f 8),.i .i64 (f 9),.i .i64 (f 10),.i .i64 (f 11),.i .i64 (f 12),.i .i64 (f 13),.i .i64 (f 14),.i .i64 (f 15)] [.i .i64 (g 0),.i .i64 (g 1),.i .i64 (g 2),.i .i64 (g 3),.i .i64 (g 4),.i .i64 (g 5),.i .i64 (g 6),.i .i64 (g 7),.i .i64 (g 8),.i .i64 (g 9),.i .i64 (g 10),.i .i64 (g 11),.i .i64 (g 12),.i .i64 (g 13),.i .i64 (g 14),.i .i64 (g 15)] = decide (CL f = CL g):=by
 simp [Cy,eq1,CL,DW]
def R0 (v w : View) : Bool:=decide (v.id = w.id) && (decide (v.base = w.base) && (decide (v.list = w.list) && (decide (v.pred = w.pred) && decide (CL v.f = CL w.f))))
theorem TI (v w : View) (h1 : v.base.length ≤ 100000) (h2 : v.list.length ≤ 100000) : Go.Gar.Fn Tryz.prog 56 [v.d,w.d] (.b (R0 v w)):=by
 obtain ⟨i1,b1,l1,p1,f1⟩:=v
 obtain ⟨i2,b2,l2,p2,f2⟩:=w
 have cB:=Rf b1 b2 h1
 have cL:=Rf l1 l2 h2
 have hF:=fE f1 f2
 have hS : R0 ⟨i1,b1,l1,p1,f1⟩ ⟨i2,b2,l2,p2,f2⟩ = (decide (i1 = i2) && (decide (b1 = b2) && (decide (l1 = l2) && (decide (p1 = p2) && decide (CL f1 = CL f2))))):=rfl
 rw [hS]
 generalize decide (b1 = b2) = bb at *
 generalize decide (l1 = l2) = bl at *
 generalize decide (CL f1 = CL f2) = bf at *
 refine A0 AB Tryz.func56 rfl rfl (Nat.le_of_ble_eq_true rfl) ?_
 by_cases e1 : i1 = i2
 ·have g1:=AA e1
  rw [decide_eq_true e1]
  cases bb with
  | false =>
   refine wk [0,1,2,3,4] [] (AD g1) (AD @cB) ?_;with_reducible repeat' first|constructor|intro hc;try simp only[A3] at hc
   refine ⟨_,_,rfl,rfl,?_⟩;simp [AE,A6,A5,A4]
  | true =>
   cases bl with
   | false =>
    refine wk [0,1,2,3,4] [] (AD g1) (Ao @cB @cL) ?_;with_reducible repeat' first|constructor|intro hc;try simp only[A3] at hc
    refine ⟨_,_,rfl,rfl,?_⟩;simp [AE,A6,A5,A4]
   | true =>
    by_cases e2 : p1 = p2
    ·have g2:=AA e2
     rw [decide_eq_true e2]
     refine wk [0,1,2,3,4] [] (Bo g1 g2 hF) (Ao @cB @cL) ?_;with_reducible repeat' first|constructor|intro hc;try simp only[A3] at hc
     refine ⟨_,_,rfl,rfl,?_⟩;simp [AE,A6,A5,A4]
    ·have g2:=eq_false' e2
     rw [decide_eq_false e2]
     refine wk [0,1,2,3,4] [] (Ao g1 g2) (Ao @cB @cL) ?_;with_reducible repeat' first|constructor|intro hc;try simp only[A3] at hc
     refine ⟨_,_,rfl,rfl,?_⟩;simp [AE,A6,A5,A4]
 ·have g1:=eq_false' e1
  rw [decide_eq_false e1]
  refine wk [0,1,2,3,4] [] (AD g1) A1 ?_;with_reducible repeat' first|constructor|intro hc;try simp only[A3] at hc
  refine ⟨_,_,rfl,rfl,?_⟩;simp [AE,A6,A5,A4]
def newV (id : Int) (base : List Int) : View:=⟨id,base,[],-1,fun _ => -1⟩
def zeroV : View:=⟨0,[],[],0,fun _ => 0⟩
def newT (id : Int) (base : List Int) : View × Int:=if AF (newV id base) then (newV id base,0) else (zeroV,2)
theorem Y5 (id : Int) (base : List Int) (hid : i64 id) (hb : base.length ≤ 1000) : Go.Gar.Fn Tryz.prog 68 [.i .i64 id,.is base] (.tup [(newT id base).1.d,.i .i64 (newT id base).2]):=by
 have c2:=Kv (newV id base) hid (fun y hy => by cases hy) hb (show ([] : List Int).length ≤ 1000 by decide)
 change Go.Gar.Fn _ _ [.agg [.i .i64 id,.is base,.is [],.i .i64 (-1),.i .i64 (-1),.i .i64 (-1),.i .i64 (-1),.i .i64 (-1),.i .i64 (-1),.i .i64 (-1),.i .i64 (-1),.i .i64 (-1),.i .i64 (-1),.i .i64 (-1),.i .i64 (-1),.i .i64 (-1),.i .i64 (-1),.i .i64 (-1),.i .i64 (-1),.i .i64 (-1)]] _ at c2
 unfold newT
 refine A0 AB Tryz.func68 rfl rfl (Nat.le_of_ble_eq_true rfl) ?_
 cases h : AF (newV id base) with
 | true =>
  rw [h] at c2
  have z1:=@c2;have un : No 17:=trivial;refine wk [0,1,4,5,6,7,14,22] [] A1 A1 ?_;clear un z1;with_reducible repeat' first|constructor|intro hc;try simp only[A3] at hc
  refine ⟨_,_,rfl,rfl,?_⟩;simp [AE,A6,A5,A4,newV,View.d,View.cells]
 | false =>
  rw [h] at c2
  have z1:=@c2;have un : No 17:=trivial;refine wk [0,1,4,5,6,7,14,22] [] A1 A1 ?_;clear un z1;with_reducible repeat' first|constructor|intro hc;try simp only[A3] at hc
  refine ⟨_,_,rfl,rfl,?_⟩;simp [AE,A6,A5,A4,zeroV,View.d,View.cells]
def BI (v : View) (l : List Int) : View:=if AF v && BD v.id l then ⟨v.id,v.base,l,v.pred,v.f⟩ else v
theorem Tj (v : View) (l : List Int) (hb : v.base.length ≤ 1000) (hv : v.list.length ≤ 1000) (hl : l.length ≤ 1000) : Go.Gar.Fn Tryz.prog 100 [v.d,.is l] (BI v l).d:=by
 obtain ⟨id,base,list,pred,f⟩:=v
 replace hb : base.length ≤ 1000:=hb
 replace hv : list.length ≤ 1000:=hv
 have c1:=Fw ⟨id,base,list,pred,f⟩ (by show base.length ≤ 100000;omega) (by show list.length ≤ 100000;omega)
 have c2:=Am ⟨id,base,list,pred,f⟩ hb hv
 have c3:=SQ id l hl
 have c4:=LP l (by omega)
 have hL : BI ⟨id,base,list,pred,f⟩ l = if AF ⟨id,base,list,pred,f⟩ && BD id l then ⟨id,base,l,pred,f⟩ else ⟨id,base,list,pred,f⟩:=rfl
 refine A0 AB Tryz.func100 rfl rfl (Nat.le_of_ble_eq_true rfl) ?_
 cases h : AF ⟨id,base,list,pred,f⟩ with
 | false =>
  rw [h] at c2 hL
  rw [hL]
  have sc : No 3:=trivial;refine wk [0,1,2,4,5,17] [] A1 (Ao @c1 @c2) ?_;clear sc;with_reducible repeat' first|constructor|intro hc;try simp only[A3] at hc
  refine ⟨_,_,rfl,rfl,?_⟩;simp [AE,A6,A5,A4,View.d,View.cells]
 | true =>
  rw [h] at c2 hL
  cases h2 : BD id l with
  | false =>
   rw [h2] at c3 hL
   rw [hL]
   have sc : No 3:=trivial;refine wk [0,1,2,4,5,17] [] A1 (Bo @c1 @c2 @c3) ?_;clear sc;with_reducible repeat' first|constructor|intro hc;try simp only[A3] at hc
   refine ⟨_,_,rfl,rfl,?_⟩;simp [AE,A6,A5,A4,View.d,View.cells]
  | true =>
   rw [h2] at c3 hL
   rw [hL]
   have sc : No 3:=trivial;refine wk [0,1,2,4,5,17] [] A1 (GD @c1 @c2 @c3 @c4) ?_;clear sc;with_reducible repeat' first|constructor|intro hc;try simp only[A3] at hc
   refine ⟨_,_,rfl,rfl,?_⟩;simp [AE,A6,A5,A4,View.d,View.cells]
theorem PV (v : View) (l : List Int) (hid : i64 v.id) (hli : ∀ y ∈ v.list,i64 y) (hll : ∀ y ∈ l,i64 y) (hb : v.base.length ≤ 1000) (hv : v.list.length ≤ 1000) (hl : l.length ≤ 1000) : Go.Gar.Fn Tryz.prog 30 [v.d,.is l] (BI v l).d:=by
 obtain ⟨id,base,list,pred,f⟩:=v
 have c2:=Kv ⟨id,base,list,pred,f⟩ hid hli hb hv
 replace hb : base.length ≤ 1000:=hb
 replace hv : list.length ≤ 1000:=hv
 have c1:=Vg ⟨id,base,list,pred,f⟩ (by show base.length ≤ 100000;omega) (by show list.length ≤ 100000;omega)
 have c3:=Gt id l hid hll hl
 have hL : BI ⟨id,base,list,pred,f⟩ l = if AF ⟨id,base,list,pred,f⟩ && BD id l then ⟨id,base,l,pred,f⟩ else ⟨id,base,list,pred,f⟩:=rfl
 refine A0 AB Tryz.func30 rfl rfl (Nat.le_of_ble_eq_true rfl) ?_
 cases h : AF ⟨id,base,list,pred,f⟩ with
 | false =>
  rw [h] at c2 hL
  rw [hL]
  refine wk [0,1,2,4,14] [] A1 (Ao @c1 @c2) ?_;with_reducible repeat' first|constructor|intro hc;try simp only[A3] at hc
  refine ⟨_,_,rfl,rfl,?_⟩;simp [AE,A6,A5,A4,View.d,View.cells]
 | true =>
  rw [h] at c2 hL
  cases h2 : BD id l with
  | false =>
   rw [h2] at c3 hL
   rw [hL]
   refine wk [0,1,2,4,14] [] A1 (Bo @c1 @c2 @c3) ?_;with_reducible repeat' first|constructor|intro hc;try simp only[A3] at hc
   refine ⟨_,_,rfl,rfl,?_⟩;simp [AE,A6,A5,A4,View.d,View.cells]
  | true =>
   rw [h2] at c3 hL
   rw [hL]
   refine wk [0,1,2,4,14] [] A1 (Bo @c1 @c2 @c3) ?_;with_reducible repeat' first|constructor|intro hc;try simp only[A3] at hc
   refine ⟨_,_,rfl,rfl,?_⟩;simp [AE,A6,A5,A4,View.d,View.cells]
end Go.Proofs.YtnahkfkljohjaaaGreatDoor
