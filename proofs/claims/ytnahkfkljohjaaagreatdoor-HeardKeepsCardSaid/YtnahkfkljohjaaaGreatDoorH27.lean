/- Part 27 of the texts of this proof, put together by a program and made short.
Conditions: none; what each theorem asks stands in its own hypotheses. -/
import Derived.Test.YtnahkfkljohjaaaGreatDoorH24
import Derived.Sort.Walk0
import Derived.KernelRfl
import Derived.RangeFuncIn
import Derived.OpenShut
import Derived.ProofKit
import Derived.CallsIn
import Derived.RangeFuncLeaves
import Derived.OrdersIn
import Derived.TacticsIn
import Derived.ChangeKeysEq
import Derived.Laws.AppendOwn
import Derived.Laws.OwnMore
import Derived.Laws.MakeOwn
import Derived.Laws.Rows
import Derived.Laws.Cells
import Derived.Laws.Tables
import Derived.Laws.CopyRow
import Derived.Laws.Strings
import Derived.Laws.IdiomStrings
import Derived.Laws.BytesArg
import Derived.Sort.Grow
import Derived.Laws.Cover3
import Derived.RecoverIn
import Derived.Test.YtnahkfkljohjaaaGreatDoorProg
set_option linter.unusedSimpArgs false
set_option linter.unusedVariables false
set_option linter.unnecessarySimpa false
set_option maxHeartbeats 40000000
namespace Go.Proofs.YtnahkfkljohjaaaGreatDoor
namespace Nd
open Go.Gar
open Wi (A8 B0 Ak AX B8)
set_option maxRecDepth 4000
abbrev Nx : List Nat:=[0,1,4,5,6,11,12,13,16,19]
abbrev F3 : List Nat:=[0,1,3,4,5,6,7,8,9,15,28]
def Jh (a b : List UInt8) : Int:=if a < b then -1 else if b < a then 1 else 0
theorem MO (s : List UInt8) : Go.Gar.Fn Tryz.prog 227 [.s s] (.b false):=by
 have e : (s != s) = false:=by simp
 refine A0 AB Tryz.func227 rfl rfl (Nat.le_of_ble_eq_true rfl) ?_
 refine wk [0,2] [] (AD e) A1 ?_;with_reducible repeat' first|constructor|intro hc;try simp only[A3] at hc
 refine ⟨_,_,rfl,rfl,?_⟩;simp [AE,A6,A5,A4]
theorem Og (a b : List UInt8) : Go.Gar.Fn Tryz.prog 220 [.s a,.s b] (.i .i64 (Jh a b)):=by
 have c1:=MO a
 have c2:=MO b
 have hT : Jh a b = if a < b then -1 else if b < a then 1 else 0:=rfl
 refine A0 AB Tryz.func220 rfl rfl (Nat.le_of_ble_eq_true rfl) ?_
 by_cases h1 : a < b
 ·have f1 : Op.bytesLess a b = true:=by rw [bytesLess_eq];exact decide_eq_true h1
  rw [hT,if_pos h1]
  refine wk Nx [] (AD f1) (Ao @c1 @c2) ?_;with_reducible repeat' first|constructor|intro hc;try simp only[A3] at hc
  refine ⟨_,_,rfl,rfl,?_⟩;simp [AE,A6,A5,A4]
 ·have f1 : Op.bytesLess a b = false:=by rw [bytesLess_eq];exact decide_eq_false h1
  by_cases h2 : b < a
  ·have f2 : (a == b) = false:=by
    rw [beq_eq_false_iff_ne];rintro rfl;exact List.lt_irrefl _ h2
   rw [hT,if_neg h1,if_pos h2]
   refine wk Nx [] (Ao f1 f2) (Ao @c1 @c2) ?_;with_reducible repeat' first|constructor|intro hc;try simp only[A3] at hc
   refine ⟨_,_,rfl,rfl,?_⟩;simp [AE,A6,A5,A4]
  ·have f2 : (a == b) = true:=by
    rw [beq_iff_eq]
    rcases Qu a b with h | h | h
    ·exact absurd h h1
    ·exact h
    ·exact absurd h h2
   rw [hT,if_neg h1,if_neg h2]
   refine wk Nx [] (Ao f1 f2) (Ao @c1 @c2) ?_;with_reducible repeat' first|constructor|intro hc;try simp only[A3] at hc
   refine ⟨_,_,rfl,rfl,?_⟩;simp [AE,A6,A5,A4]
theorem MZ (x : Item) (key : List UInt8) : B4 Tryz.prog 219 [.d x.d,.ptr 0 0 1] [.c [.d (.s key)]] (.d (.i .i64 (Jh x.key key))) [.c [.d (.s key)]]:=by
 have c1:=Og x.key key
 refine A7 AB Tryz.func219 rfl rfl (Nat.le_of_ble_eq_true rfl) ?_
 generalize Jh x.key key = q at *
 unfold Item.d Item.cells
 refine wk [0,1,2,3] [] A1 (AD @c1) ?_;with_reducible repeat' first|constructor|intro hc;try simp only[A3] at hc
 exact ⟨⟨[(3,.d (.i .i64 q))],[.c [.d (.s key)]],_⟩,(A2.ck rfl),Nat.le_of_ble_eq_true rfl,_,_,rfl,rfl,rfl,rfl⟩
theorem QZ {l : List Item} {key : List UInt8} (h : kS l) {k : Nat} {x : Item} (hx : l[k]? = some x) : x.key < key ↔ k < BX l key:=by
 obtain ⟨h1,h2⟩:=FQ key l h
 constructor
 ·intro hlt
  rcases Nat.lt_or_ge k (BX l key) with h | h
  ·exact h
  ·refine absurd hlt (h2 x (List.mem_iff_getElem?.2 ⟨k - BX l key,?_⟩))
   rw [List.getElem?_drop,show BX l key + (k - BX l key) = k by omega];exact hx
 ·intro hlt
  refine h1 x (List.mem_iff_getElem?.2 ⟨k,?_⟩)
  rw [List.getElem?_take,if_pos hlt];exact hx
def RQ (l : List Item) (key : List UInt8) (x : Nat × Nat) : St:=⟨[(0,.d (AZ l)),(6,.fn (.func 219) [] [.ptr 0 0 1]),(7,.d (.i .i64 x.1)),(8,.d (.i .i64 x.2))],[.c [.d (.s key)]],46⟩
theorem WY (l : List Item) (key : List UInt8) (h : kS l) (hn : l.length ≤ 1048576) : Go.Gar.Fn Tryz.prog 196 [AZ l,.s key] (.tup [.i .i64 (BX l key),.b (hasK l key)]):=by
 have hle:=PY l key
 refine A0 AB Tryz.func196 rfl rfl (Nat.le_of_ble_eq_true rfl) ?_
 refine wk F3 [] A1 A1 ?_;with_reducible repeat' first|constructor|intro hc;try simp only[A3] at hc
 refine W3 0 _ (fun x : Nat × Nat => x.1 ≤ BX l key ∧ BX l key ≤ x.2 ∧ x.2 ≤ l.length) (RQ l key) (fun x => x.2 - x.1) (l.length + 1) 0 0 rfl ?_ ?_
 ·by_cases h0 : 0 < l.length
  ·have f1 : decide ((0 : Int) < (l.length : Int)) = true:=decide_eq_true (by omega)
   have e1 : ((l.length : Int) - 0).tdiv 2 = ((l.length / 2 : Nat) : Int):=by rw [Int.tdiv_eq_ediv_of_nonneg (by omega)];omega
   have e2 : (0 : Int) + ((l.length / 2 : Nat) : Int) = ((l.length / 2 : Nat) : Int):=by omega
   generalize hmm : l.length / 2 = m at *
   obtain ⟨x,hx⟩:=AR (xs:=l) (k:=m) (by omega)
   have hlt:=QZ (key:=key) h hx
   have c1:=MZ x key
   unfold Item.d Item.cells at c1
   by_cases hk : x.key < key
   ·have hc : Jh x.key key = -1:=if_pos hk
    rw [hc] at c1
    have hk':=hlt.1 hk
    have ix1:=hx;have d1:=Ds.mk [0] (c1);refine wk F3 [] (Bo f1 e1 e2) A1 ?_;clear d1 ix1;with_reducible repeat' first|constructor|intro hc;try simp only[A3] at hc
    refine ⟨(m + 1,l.length),⟨hk',hle,Nat.le_refl _⟩,(show l.length - (m + 1) < l.length + 1 by omega),Nat.le_refl _,?_⟩
    unfold RQ
    exact A2.ck rfl
   ·have hc : decide (Jh x.key key < 0) = false:=decide_eq_false (by unfold Jh;rw [if_neg hk];split <;> omega)
    have hk' : ¬ m < BX l key:=fun hh => hk (hlt.2 hh)
    have ix1:=hx;have d1:=Ds.mk [0] (c1);refine wk F3 [] (GD f1 e1 e2 hc) A1 ?_;clear d1 ix1;with_reducible repeat' first|constructor|intro hc;try simp only[A3] at hc
    refine ⟨(0,m),⟨Nat.zero_le _,Nat.le_of_not_lt hk',(show m ≤ l.length by omega)⟩,(show m - 0 < l.length + 1 by omega),Nat.le_refl _,?_⟩
    unfold RQ
    exact A2.ck rfl
  ·have e : l = []:=List.length_eq_zero_iff.1 (by omega)
   subst e
   refine wk F3 [] A1 A1 ?_;with_reducible repeat' first|constructor|intro hc;try simp only[A3] at hc
   refine ⟨_,_,rfl,rfl,?_⟩;simp [AE,A6,A5,A4,BX,hasK]
 rintro ⟨a,b⟩ ⟨h1,h2,h3⟩
 dsimp only at h1 h2 h3
 unfold RQ
 by_cases hab : a < b
 ·have f1 : decide ((a : Int) < (b : Int)) = true:=decide_eq_true (by omega)
  have e1 : ((b : Int) - (a : Int)).tdiv 2 = (((b - a) / 2 : Nat) : Int):=by rw [Int.tdiv_eq_ediv_of_nonneg (by omega)];omega
  have e2 : (a : Int) + (((b - a) / 2 : Nat) : Int) = ((a + (b - a) / 2 : Nat) : Int):=by omega
  have hm : a + (b - a) / 2 < b:=by omega
  have hm2 : a ≤ a + (b - a) / 2:=by omega
  generalize hmm : a + (b - a) / 2 = m at *
  obtain ⟨x,hx⟩:=AR (xs:=l) (k:=m) (by omega)
  have hlt:=QZ (key:=key) h hx
  have c1:=MZ x key
  unfold Item.d Item.cells at c1
  by_cases hk : x.key < key
  ·have hc : Jh x.key key = -1:=if_pos hk
   rw [hc] at c1
   have hk':=hlt.1 hk
   have ix1:=hx;have d1:=Ds.mk [0] (c1);refine wk F3 [] (Bo f1 e1 e2) A1 ?_;clear d1 ix1;with_reducible repeat' first|constructor|intro hc;try simp only[A3] at hc
   refine ⟨(m + 1,b),⟨hk',h2,h3⟩,(show b - (m + 1) < b - a by omega),Nat.le_refl _,?_⟩
   exact A2.ck rfl
  ·have hc : decide (Jh x.key key < 0) = false:=decide_eq_false (by unfold Jh;rw [if_neg hk];split <;> omega)
   have hk' : ¬ m < BX l key:=fun hh => hk (hlt.2 hh)
   have ix1:=hx;have d1:=Ds.mk [0] (c1);refine wk F3 [] (GD f1 e1 e2 hc) A1 ?_;clear d1 ix1;with_reducible repeat' first|constructor|intro hc;try simp only[A3] at hc
   refine ⟨(a,m),⟨h1,Nat.le_of_not_lt hk',by omega⟩,(show m - a < b - a by omega),Nat.le_refl _,?_⟩
   exact A2.ck rfl
 ·have f1 : decide ((a : Int) < (b : Int)) = false:=decide_eq_false (by omega)
  have ha : a = BX l key:=by omega
  by_cases hl : a < l.length
  ·have f2 : decide ((a : Int) < (l.length : Int)) = true:=decide_eq_true (by omega)
   obtain ⟨x,hx⟩:=AR (xs:=l) (k:=a) hl
   have c1:=MZ x key
   unfold Item.d Item.cells at c1
   have gx : l.getD a AP = x:=getD_at hx
   have hlt : ¬ x.key < key:=fun hh => by have:=(QZ (key:=key) h hx).1 hh;omega
   have hT : hasK l key = (Jh x.key key == 0):=by
    unfold hasK
    rw [← ha,gx,decide_eq_true hl,Bool.true_and,DW]
    unfold Jh
    rw [if_neg hlt]
    by_cases e : x.key = key
    ·rw [if_neg (by rw [e];exact List.lt_irrefl _)];simp [e]
    ·rcases Qu x.key key with h | h | h
     ·exact absurd h hlt
     ·exact absurd h e
     ·rw [if_pos h];simp [e]
   rw [hT,← ha]
   have ix1:=hx;have d1:=Ds.mk [0] (c1);refine wk F3 [] (Ao f1 f2) A1 ?_;clear d1 ix1;with_reducible repeat' first|constructor|intro hc;try simp only[A3] at hc
   refine ⟨_,_,rfl,rfl,?_⟩;simp [AE,A6,A5,A4]
  ·have f2 : decide ((a : Int) < (l.length : Int)) = false:=decide_eq_false (by omega)
   have hT : hasK l key = false:=by
    unfold hasK
    rw [← ha,decide_eq_false hl];rfl
   rw [hT,← ha]
   refine wk F3 [] (Ao f1 f2) A1 ?_;with_reducible repeat' first|constructor|intro hc;try simp only[A3] at hc
   refine ⟨_,_,rfl,rfl,?_⟩;simp [AE,A6,A5,A4]
theorem Y4 (l : List Item) (key : List UInt8) (hn : l.length ≤ 1048576) : Go.Gar.Fn Tryz.prog 147 [AZ l,.s key] (.tup [(Di l key).1.d,.i .i64 (Di l key).2]):=by
 have c1:=Ml l (by omega)
 refine A0 AB Tryz.func147 rfl rfl (Nat.le_of_ble_eq_true rfl) ?_
 have hT : Di l key = if Bd l && hasK l key then (l.getD (BX l key) AP,0) else (AP,201):=rfl
 cases h : Bd l with
 | false =>
  rw [h] at c1 hT
  rw [hT]
  refine wk [0,1,4,5,6,7,10,19] [] A1 (AD @c1) ?_;with_reducible repeat' first|constructor|intro hc;try simp only[A3] at hc
  refine ⟨_,_,rfl,rfl,?_⟩;simp [AE,A6,A5,A4,Item.d,Item.cells,AP]
 | true =>
  have c2:=WY l key (Ch.1 h).2.2 hn
  rw [h] at c1 hT
  cases hh : hasK l key with
  | false =>
   rw [hh] at c2 hT
   rw [hT]
   refine wk [0,1,4,5,6,7,10,19] [] A1 (Ao @c1 @c2) ?_;with_reducible repeat' first|constructor|intro hc;try simp only[A3] at hc
   refine ⟨_,_,rfl,rfl,?_⟩;simp [AE,A6,A5,A4,Item.d,Item.cells,AP]
  | true =>
   obtain ⟨x,hx,hxk,hxg⟩:=Fz hh
   rw [hh] at c2 hT
   rw [hxg] at hT
   rw [hT]
   generalize BX l key = m at *
   have ix1:=hx;refine wk [0,1,4,5,6,7,10,19] [] A1 (Ao @c1 @c2) ?_;clear ix1;with_reducible repeat' first|constructor|intro hc;try simp only[A3] at hc
   refine ⟨_,_,rfl,rfl,?_⟩;simp [AE,A6,A5,A4,Item.d,Item.cells]
end Nd
end Go.Proofs.YtnahkfkljohjaaaGreatDoor
