/- Part 8 of the texts of this proof, put together by a program and made short.
Conditions: none; what each theorem asks stands in its own hypotheses. -/
import Derived.Test.YtnahkfkljohjaaaGreatDoorH06
import Derived.Test.YtnahkfkljohjaaaGreatDoorH07
import Derived.KernelRfl
import Derived.RangeFuncIn
import Derived.OpenShut
import Derived.ProofKit
import Derived.CallsIn
import Derived.RangeFuncLeaves
import Derived.OrdersIn
import Derived.TacticsIn
import Derived.ChangeKeysEq
import Derived.Laws.AppendOwn
import Derived.Laws.OwnMore
import Derived.Laws.MakeOwn
import Derived.Laws.Rows
import Derived.Laws.Cells
import Derived.Laws.Tables
import Derived.Laws.CopyRow
import Derived.Laws.Strings
import Derived.Laws.IdiomStrings
import Derived.Laws.BytesArg
import Derived.Sort.Grow
import Derived.Laws.Cover3
import Derived.RecoverIn
import Derived.Test.YtnahkfkljohjaaaGreatDoorProg
set_option linter.unusedSimpArgs false
set_option linter.unusedVariables false
set_option linter.unnecessarySimpa false
set_option maxHeartbeats 40000000
namespace Go.Proofs.YtnahkfkljohjaaaGreatDoor
open Go.Gar
set_option maxRecDepth 4000
abbrev JF : List Nat:=[0,1,4,5,6,11,12,13,16,19]
abbrev EU : List Nat:=[0,2,3,5,6,7,8,9,14]
theorem mixed : Tryz.prog.follows .mixedOrders = true:=by kernel_rfl
theorem DW {α : Type} [BEq α] [LawfulBEq α] [DecidableEq α] (a b : α) : (a == b) = decide (a = b):=by
 by_cases h : a = b <;> simp [h]
theorem AR {α : Type} {xs : List α} {k : Nat} (h : k < xs.length) : ∃ x,xs[k]? = some x:=⟨xs[k],List.getElem?_eq_getElem h⟩
theorem AT {α : Type} {l : List α} {k : Nat} {x : α} (hx : l[k]? = some x) : l.take (k + 1) = l.take k ++ [x]:=by
 rw [List.take_add_one,hx];rfl
theorem AO {a b : Int} (h : a = b) : (a != b) = false:=by rw [bne_eq_false_iff_eq];exact h
theorem BJ {a b : Int} (h : a ≠ b) : (a != b) = true:=by rw [bne_iff_ne];exact h
theorem eq_false' {a b : Int} (h : a ≠ b) : (a == b) = false:=by rw [beq_eq_false_iff_ne];exact h
theorem AA {a b : Int} (h : a = b) : (a == b) = true:=by rw [beq_iff_eq];exact h
structure Item where
 key : List UInt8
 value : Int
 version : Int
 gone : Bool
 deriving DecidableEq
def Item.cells (x : Item) : List D:=[.s x.key,.i .i64 x.value,.i .i64 x.version,.b x.gone]
def Item.d (x : Item) : D:=.agg x.cells
abbrev AZ (l : List Item) : D:=.sl 4 (l.map Item.cells)
def AP : Item:=⟨[],0,0,false⟩
def Item.rank (x : Item) : D:=.agg [.i .i64 x.version,.i .i64 x.value,.b x.gone]
theorem Vz (x y : Item) : Cy x.cells y.cells = decide (x = y):=by
 obtain ⟨a,b,c,d⟩:=x
 obtain ⟨a',b',c',d'⟩:=y
 simp [Item.cells,Cy,eq1,DW]
theorem GO (x y : Item) : Cy [.s x.key,.i .i64 x.value,.i .i64 x.version,.b x.gone] [.s y.key,.i .i64 y.value,.i .i64 y.version,.b y.gone] = decide (x = y):=Vz x y
theorem YR (x : Item) : Go.Gar.Fn Tryz.prog 228 [x.d] x.rank:=by
 obtain ⟨k,v,n,g⟩:=x
 refine A0 AB Tryz.func228 rfl rfl (Nat.le_of_ble_eq_true rfl) ?_
 refine wk [0,1,2] [] A1 A1 ?_;with_reducible repeat' first|constructor|intro hc;try simp only[A3] at hc
 refine ⟨_,_,rfl,rfl,?_⟩;simp [AE,A6,A5,A4,Item.rank]
theorem P7 (x : Int) : Go.Gar.Fn Tryz.prog 231 [.i .i64 x] (.b false):=by
 refine A0 AB Tryz.func231 rfl rfl (Nat.le_of_ble_eq_true rfl) ?_
 refine wk [0,2] [] A1 A1 ?_;with_reducible repeat' first|constructor|intro hc;try simp only[A3] at hc
 refine ⟨_,_,rfl,rfl,?_⟩;simp [AE,A6,A5,A4]
def Eo (x y : Int) : Int:=if x < y then -1 else if y < x then 1 else 0
theorem Kr (x y : Int) : Go.Gar.Fn Tryz.prog 230 [.i .i64 x,.i .i64 y] (.i .i64 (Eo x y)):=by
 have h1:=P7 x
 have h2:=P7 y
 refine A0 AB Tryz.func230 rfl rfl (Nat.le_of_ble_eq_true rfl) ?_
 rcases Int.lt_trichotomy x y with h | h | h
 ·have e : Eo x y = -1:=if_pos h
  refine wk JF [] A1 (Ao @h1 @h2) ?_;with_reducible repeat' first|constructor|intro hc;try simp only[A3] at hc
  refine ⟨_,_,rfl,rfl,?_⟩;simp [AE,A6,A5,A4,e]
 ·have e : Eo x y = 0:=by unfold Eo;rw [if_neg (by omega),if_neg (by omega)]
  refine wk JF [] A1 (Ao @h1 @h2) ?_;with_reducible repeat' first|constructor|intro hc;try simp only[A3] at hc
  refine ⟨_,_,rfl,rfl,?_⟩;simp [AE,A6,A5,A4,e]
 ·have e : Eo x y = 1:=by unfold Eo;rw [if_neg (by omega),if_pos h]
  refine wk JF [] A1 (Ao @h1 @h2) ?_;with_reducible repeat' first|constructor|intro hc;try simp only[A3] at hc
  refine ⟨_,_,rfl,rfl,?_⟩;simp [AE,A6,A5,A4,e]
def TZ (a b : Int) : Int:=if a = 0 then b else a
theorem bO (a b : Int) : Go.Gar.Fn Tryz.prog 229 [.is [a,b]] (.i .i64 (TZ a b)):=by
 refine A0 AB Tryz.func229 rfl rfl (Nat.le_of_ble_eq_true rfl) ?_
 refine wk EU [] A1 A1 ?_;with_reducible repeat' first|constructor|intro hc;try simp only[A3] at hc
 refine BF (fun k : Nat => k ≤ 2 ∧ (1 ≤ k → a = 0) ∧ (2 ≤ k → b = 0)) (fun k : Nat => ⟨[(2,.d (.i .i64 0)),(3,.d (.i .i64 0)),(6,.d (.is [a,b])),(7,.d (.i .i64 2)),(8,.d (.i .i64 k))],[],18⟩) (fun k => 2 - k) 0 ⟨Nat.zero_le _,by omega,by omega⟩ ?_ (Nat.le_refl _) ?_
 ·exact A2.ck rfl
 rintro k ⟨hk,h1,h2⟩
 by_cases k0 : k = 0
 ·subst k0
  by_cases ha : a = 0
  ·refine wk EU [] (AD (AO ha)) A1 ?_;with_reducible repeat' first|constructor|intro hc;try simp only[A3] at hc
   refine ⟨1,⟨by omega,fun _ => ha,by omega⟩,by omega,Nat.le_refl _,?_⟩
   exact A2.ck rfl
  ·have e : TZ a b = a:=if_neg ha
   refine wk EU [] (AD (BJ ha)) A1 ?_;with_reducible repeat' first|constructor|intro hc;try simp only[A3] at hc
   refine ⟨_,_,rfl,rfl,?_⟩;simp [AE,A6,A5,A4,e]
 ·have ha:=h1 (by omega)
  have e : TZ a b = b:=if_pos ha
  by_cases k1 : k = 1
  ·subst k1
   by_cases hb : b = 0
   ·refine wk EU [] (AD (AO hb)) A1 ?_;with_reducible repeat' first|constructor|intro hc;try simp only[A3] at hc
    refine ⟨2,⟨by omega,fun _ => ha,fun _ => hb⟩,by omega,Nat.le_refl _,?_⟩
    exact A2.ck rfl
   ·refine wk EU [] (AD (BJ hb)) A1 ?_;with_reducible repeat' first|constructor|intro hc;try simp only[A3] at hc
    refine ⟨_,_,rfl,rfl,?_⟩;simp [AE,A6,A5,A4,e]
  ·have k2 : k = 2:=by omega
   subst k2
   have hb : b = 0:=h2 (Nat.le_refl 2)
   subst hb
   refine wk EU [] A1 A1 ?_;with_reducible repeat' first|constructor|intro hc;try simp only[A3] at hc
   refine ⟨_,_,rfl,rfl,?_⟩;simp [AE,A6,A5,A4,e]
abbrev CQ : List Nat:=[0,1,2,3,4,5,6,7,14,32,34]
def CS (x y : Item) : Int :=
 if x.version < y.version then -1 else if y.version < x.version then 1 else if x.value < y.value then -1 else if y.value < x.value then 1 else
 if x.gone = y.gone then 0 else if x.gone then 1 else -1
theorem ZO (x y : Item) : Go.Gar.Fn Tryz.prog 221 [x.d,y.d] (.i .i64 (CS x y)):=by
 have c1:=YR x
 have c2:=YR y
 obtain ⟨k,v,n,g⟩:=x
 obtain ⟨k',v',n',g'⟩:=y
 have c3:=Kr n n'
 have c4:=Kr v v'
 have c5:=bO (Eo n n') (Eo v v')
 refine A0 AB Tryz.func221 rfl rfl (Nat.le_of_ble_eq_true rfl) ?_
 refine wd CQ [1] [] A1 A1 ?_;with_reducible repeat' first|constructor|intro hc;try simp only[A3] at hc
 refine Na T.get 4 5 2 3 ⟨[(0,.d (Item.d ⟨k,v,n,g⟩)),(1,.d (Item.d ⟨k',v',n',g'⟩)),(2,.ptr 0 0 4),(3,.ptr 1 0 4),(4,.d (.i .i64 0)),(5,.ptr 2 0 3),(6,.ptr 3 0 3)],[.c [.d (.s k),.d (.i .i64 v),.d (.i .i64 n),.d (.b g)],.c [.d (.s k'),.d (.i .i64 v'),.d (.i .i64 n'),.d (.b g')],.c [.d (.i .i64 n),.d (.i .i64 v),.d (.b g)],.c [.d (.i .i64 n'),.d (.i .i64 v'),.d (.b g')]],36⟩ mixed rfl rfl rfl ?_ ?_ ?_
 ·refine wd CQ [] [(0,4),(0,5),(0,6),(0,7),(2,4),(2,5),(2,6),(2,7)] A1 (Ao @c1 @c2) ?_;with_reducible repeat' first|constructor|intro hc;try simp only[A3] at hc
  exact ⟨rfl,.inl rfl⟩
 ·refine wd CQ [] [(0,4),(0,5),(0,6),(0,7),(2,4),(2,5),(2,6),(2,7)] A1 (Ao @c1 @c2) ?_;with_reducible repeat' first|constructor|intro hc;try simp only[A3] at hc
  exact ⟨rfl,.inr rfl⟩
 by_cases hs : n = n' ∧ v = v' ∧ g = g'
 ·obtain ⟨rfl,rfl,rfl⟩:=hs
  have e : Cy [.i .i64 n,.i .i64 v,.b g] [.i .i64 n,.i .i64 v,.b g] = true:=by simp [Cy,eq1]
  have eT : CS ⟨k,v,n,g⟩ ⟨k',v,n,g⟩ = 0:=by simp [CS]
  refine wd CQ [] [] (AD e) A1 ?_;with_reducible repeat' first|constructor|intro hc;try simp only[A3] at hc
  refine ⟨_,_,rfl,rfl,?_⟩;simp [AE,A6,A5,A4,eT]
 have e : Cy [.i .i64 n,.i .i64 v,.b g] [.i .i64 n',.i .i64 v',.b g'] = false:=by
  cases h : Cy [.i .i64 n,.i .i64 v,.b g] [.i .i64 n',.i .i64 v',.b g'] with
  | false => rfl
  | true => simp [Cy,eq1] at h;exact absurd h hs
 rcases Int.lt_trichotomy n n' with h | h | h
 ·have hO : TZ (Eo n n') (Eo v v') = -1:=by simp [TZ,Eo,h]
  have eT : CS ⟨k,v,n,g⟩ ⟨k',v',n',g'⟩ = -1:=by simp [CS,h]
  rw [hO] at c5
  refine wd CQ [] [] (AD e) (Bo @c3 @c4 @c5) ?_;with_reducible repeat' first|constructor|intro hc;try simp only[A3] at hc
  refine ⟨_,_,rfl,rfl,?_⟩;simp [AE,A6,A5,A4,eT]
 ·subst h
  rcases Int.lt_trichotomy v v' with h | h | h
  ·have hO : TZ (Eo n n) (Eo v v') = -1:=by simp [TZ,Eo,h]
   have eT : CS ⟨k,v,n,g⟩ ⟨k',v',n,g'⟩ = -1:=by simp [CS,h]
   rw [hO] at c5
   refine wd CQ [] [] (AD e) (Bo @c3 @c4 @c5) ?_;with_reducible repeat' first|constructor|intro hc;try simp only[A3] at hc
   refine ⟨_,_,rfl,rfl,?_⟩;simp [AE,A6,A5,A4,eT]
  ·subst h
   have hg : ¬ g = g':=fun hg => hs ⟨rfl,rfl,hg⟩
   have hO : TZ (Eo n n) (Eo v v) = 0:=by simp [TZ,Eo]
   rw [hO] at c5
   cases g with
   | true =>
    have eT : CS ⟨k,v,n,true⟩ ⟨k',v,n,g'⟩ = 1:=by simp [CS,hg]
    refine wd CQ [] [] (AD e) (Bo @c3 @c4 @c5) ?_;with_reducible repeat' first|constructor|intro hc;try simp only[A3] at hc
    refine ⟨_,_,rfl,rfl,?_⟩;simp [AE,A6,A5,A4,eT]
   | false =>
    have eT : CS ⟨k,v,n,false⟩ ⟨k',v,n,g'⟩ = -1:=by simp [CS,hg]
    refine wd CQ [] [] (AD e) (Bo @c3 @c4 @c5) ?_;with_reducible repeat' first|constructor|intro hc;try simp only[A3] at hc
    refine ⟨_,_,rfl,rfl,?_⟩;simp [AE,A6,A5,A4,eT]
  ·have hO : TZ (Eo n n) (Eo v v') = 1:=by simp [TZ,Eo,h,show ¬ v < v' by omega]
   have eT : CS ⟨k,v,n,g⟩ ⟨k',v',n,g'⟩ = 1:=by simp [CS,h,show ¬ v < v' by omega]
   rw [hO] at c5
   refine wd CQ [] [] (AD e) (Bo @c3 @c4 @c5) ?_;with_reducible repeat' first|constructor|intro hc;try simp only[A3] at hc
   refine ⟨_,_,rfl,rfl,?_⟩;simp [AE,A6,A5,A4,eT]
 ·have hO : TZ (Eo n n') (Eo v v') = 1:=by simp [TZ,Eo,h,show ¬ n < n' by omega]
  have eT : CS ⟨k,v,n,g⟩ ⟨k',v',n',g'⟩ = 1:=by simp [CS,h,show ¬ n < n' by omega]
  rw [hO] at c5
  refine wd CQ [] [] (AD e) (Bo @c3 @c4 @c5) ?_;with_reducible repeat' first|constructor|intro hc;try simp only[A3] at hc
  refine ⟨_,_,rfl,rfl,?_⟩;simp [AE,A6,A5,A4,eT]
theorem Ty (x y : Item) : Go.Gar.Fn Tryz.prog 197 [x.d,y.d] (.b (decide (CS x y > 0))):=by
 have c:=ZO x y
 refine A0 AB Tryz.func197 rfl rfl (Nat.le_of_ble_eq_true rfl) ?_
 refine wk [0,1,2,3,4] [] A1 (AD @c) ?_;with_reducible repeat' first|constructor|intro hc;try simp only[A3] at hc
 refine ⟨_,_,rfl,rfl,?_⟩;simp [AE,A6,A5,A4]
def Item.may (x : Item) : Bool:=decide (1 ≤ x.key.length) && decide (x.key.length ≤ 20) && decide (0 ≤ x.value) && decide (x.value ≤ 1048576) && decide (0 ≤ x.version) && decide (x.version ≤ 1048576)
theorem XE (x : Item) : x.may = true ↔ (1 ≤ x.key.length ∧ x.key.length ≤ 20) ∧ (0 ≤ x.value ∧ x.value ≤ 1048576) ∧ (0 ≤ x.version ∧ x.version ≤ 1048576):=by
 simp only [Item.may,Bool.and_eq_true,decide_eq_true_eq]
 constructor
 ·rintro ⟨⟨⟨⟨⟨h1,h2⟩,h3⟩,h4⟩,h5⟩,h6⟩;exact ⟨⟨h1,h2⟩,⟨h3,h4⟩,h5,h6⟩
 ·rintro ⟨⟨h1,h2⟩,⟨h3,h4⟩,h5,h6⟩;exact ⟨⟨⟨⟨⟨h1,h2⟩,h3⟩,h4⟩,h5⟩,h6⟩
theorem Hr (s : List UInt8) : Go.Gar.Fn Tryz.prog 187 [.s s] (.b (decide (1 ≤ s.length ∧ s.length ≤ 20))):=by
 refine A0 AB Tryz.func187 rfl rfl (Nat.le_of_ble_eq_true rfl) ?_
 by_cases h1 : 1 ≤ s.length
 ·have f1 : decide ((s.length : Int) ≥ 1) = true:=decide_eq_true (by omega)
  by_cases h2 : s.length ≤ 20
  ·have f2 : decide ((s.length : Int) ≤ 20) = true:=decide_eq_true (by omega)
   rw [decide_eq_true (show 1 ≤ s.length ∧ s.length ≤ 20 from ⟨h1,h2⟩)]
   refine wk [0,2] [] (Ao f1 f2) A1 ?_;with_reducible repeat' first|constructor|intro hc;try simp only[A3] at hc
   refine ⟨_,_,rfl,rfl,?_⟩;simp [AE,A6,A5,A4]
  ·have f2 : decide ((s.length : Int) ≤ 20) = false:=decide_eq_false (by omega)
   rw [decide_eq_false (show ¬ (1 ≤ s.length ∧ s.length ≤ 20) from fun h => h2 h.2)]
   refine wk [0,2] [] (Ao f1 f2) A1 ?_;with_reducible repeat' first|constructor|intro hc;try simp only[A3] at hc
   refine ⟨_,_,rfl,rfl,?_⟩;simp [AE,A6,A5,A4]
 ·have f1 : decide ((s.length : Int) ≥ 1) = false:=decide_eq_false (by omega)
  rw [decide_eq_false (show ¬ (1 ≤ s.length ∧ s.length ≤ 20) from fun h => h1 h.1)]
  refine wk [0,2] [] (AD f1) A1 ?_;with_reducible repeat' first|constructor|intro hc;try simp only[A3] at hc
  refine ⟨_,_,rfl,rfl,?_⟩;simp [AE,A6,A5,A4]
theorem EZ (n : Int) : Go.Gar.Fn Tryz.prog 188 [.i .i64 n] (.b (decide (0 ≤ n ∧ n ≤ 1048576))):=by
 refine A0 AB Tryz.func188 rfl rfl (Nat.le_of_ble_eq_true rfl) ?_
 refine wk [0,2] [] A1 A1 ?_;with_reducible repeat' first|constructor|intro hc;try simp only[A3] at hc
 all_goals (refine ⟨_,_,rfl,rfl,?_⟩;simp_all [C4] <;> omega)
theorem Hz (x : Item) : Go.Gar.Fn Tryz.prog 134 [x.d] (.b x.may):=by
 obtain ⟨k,v,n,g⟩:=x
 have c1:=Hr k
 have c2:=EZ v
 have c3:=EZ n
 have hm:=XE ⟨k,v,n,g⟩
 refine A0 AB Tryz.func134 rfl rfl (Nat.le_of_ble_eq_true rfl) ?_
 refine wk [0,1,2] [] A1 (Bo @c1 @c2 @c3) ?_;with_reducible repeat' first|constructor|intro hc;try simp only[A3] at hc
 all_goals (refine ⟨_,_,rfl,rfl,?_⟩;simp_all [C4,Item.may] <;> omega)
theorem Lc (x : Item) : Go.Gar.Fn Tryz.prog 67 [x.d] (.b x.may):=by
 obtain ⟨k,v,n,g⟩:=x
 refine A0 AB Tryz.func67 rfl rfl (Nat.le_of_ble_eq_true rfl) ?_
 refine wk [0,1,2] [] A1 A1 ?_;with_reducible repeat' first|constructor|intro hc;try simp only[A3] at hc
 all_goals (refine ⟨_,_,rfl,rfl,?_⟩;simp_all [C4,Item.may] <;> omega)
end Go.Proofs.YtnahkfkljohjaaaGreatDoor
namespace Go.Proofs.YtnahkfkljohjaaaGreatDoor
namespace Wi
open Go.Gar
set_option maxRecDepth 4000
structure A8 where
 kind : Int
 call : Int
 src : Int
 dst : Int
 key : Int
 slow : Bool
 done : Bool
 place : Int
 pred : Int
 list : List Int
 item : Item
 code : Int
 deriving DecidableEq
def A8.cells (m : A8) : List D:=[.i .u8 m.kind,.i .i64 m.call,.i .i64 m.src,.i .i64 m.dst,.i .i64 m.key,.b m.slow,.b m.done,.i .i64 m.place,.i .i64 m.pred,.is m.list,.s m.item.key,.i .i64 m.item.value,.i .i64 m.item.version,.b m.item.gone,.i .i64 m.code]
def A8.d (m : A8) : D:=.agg m.cells
def AX : A8:=⟨0,0,0,0,0,false,false,0,0,[],AP,0⟩
def B0 (n : Int) : Bool:=decide (0 ≤ n) && decide (n < 65536)
theorem By (n : Int) : Go.Gar.Fn Tryz.prog 118 [.i .i64 n] (.b (B0 n)):=by
 refine A0 AB Tryz.func118 rfl rfl (Nat.le_of_ble_eq_true rfl) ?_
 refine wk [0,2] [] A1 A1 ?_;with_reducible repeat' first|constructor|intro hc;try simp only[A3] at hc
 all_goals (refine ⟨_,_,rfl,rfl,?_⟩;simp_all [C4,B0] <;> omega)
theorem JI (n : Int) : Go.Gar.Fn Tryz.prog 161 [.i .i64 n] (.b (B0 n)):=by
 refine A0 AB Tryz.func161 rfl rfl (Nat.le_of_ble_eq_true rfl) ?_
 refine wk [0,2] [] A1 A1 ?_;with_reducible repeat' first|constructor|intro hc;try simp only[A3] at hc
 all_goals (refine ⟨_,_,rfl,rfl,?_⟩;simp_all [C4,B0] <;> omega)
def A8.asks (m : A8) : Bool:=decide (1 ≤ m.kind) && decide (m.kind ≤ 6)
theorem Ke (m : A8) : Go.Gar.Fn Tryz.prog 63 [m.d] (.b m.asks):=by
 obtain ⟨k,c,s,d,ky,sl,dn,pl,pr,l,⟨ik,iv,ir,ig⟩,co⟩:=m
 refine A0 AB Tryz.func63 rfl rfl (Nat.le_of_ble_eq_true rfl) ?_
 refine wk [0,1,2] [] A1 A1 ?_;with_reducible repeat' first|constructor|intro hc;try simp only[A3] at hc
 all_goals (refine ⟨_,_,rfl,rfl,?_⟩;simp_all [C4,A8.asks] <;> omega)
theorem LV (m : A8) : Go.Gar.Fn Tryz.prog 135 [m.d] (.b m.asks):=by
 obtain ⟨k,c,s,d,ky,sl,dn,pl,pr,l,⟨ik,iv,ir,ig⟩,co⟩:=m
 refine A0 AB Tryz.func135 rfl rfl (Nat.le_of_ble_eq_true rfl) ?_
 refine wk [0,1,2] [] A1 A1 ?_;with_reducible repeat' first|constructor|intro hc;try simp only[A3] at hc
 all_goals (refine ⟨_,_,rfl,rfl,?_⟩;simp_all [C4,A8.asks] <;> omega)
def A8.asker (m : A8) : Int:=if m.asks then m.src else m.dst
theorem TA (m : A8) : Go.Gar.Fn Tryz.prog 119 [m.d] (.i .i64 m.asker):=by
 have h:=Ke m
 by_cases e : m.asks = true
 ·rw [e] at h
  have e2 : m.asker = m.src:=if_pos e
  obtain ⟨k,c,s,d,ky,sl,dn,pl,pr,l,⟨ik,iv,ir,ig⟩,co⟩:=m
  refine A0 AB Tryz.func119 rfl rfl (Nat.le_of_ble_eq_true rfl) ?_
  refine wk [0,1,2,4] [] A1 (AD @h) ?_;with_reducible repeat' first|constructor|intro hc;try simp only[A3] at hc
  refine ⟨_,_,rfl,rfl,?_⟩;simp [AE,A6,A5,A4,e2]
 ·have e : m.asks = false:=by simpa using e
  rw [e] at h
  have e2 : m.asker = m.dst:=if_neg (by simp [e])
  obtain ⟨k,c,s,d,ky,sl,dn,pl,pr,l,⟨ik,iv,ir,ig⟩,co⟩:=m
  refine A0 AB Tryz.func119 rfl rfl (Nat.le_of_ble_eq_true rfl) ?_
  refine wk [0,1,2,4] [] A1 (AD @h) ?_;with_reducible repeat' first|constructor|intro hc;try simp only[A3] at hc
  refine ⟨_,_,rfl,rfl,?_⟩;simp [AE,A6,A5,A4,e2]
theorem Tf (m : A8) : Go.Gar.Fn Tryz.prog 163 [m.d] (.i .i64 m.asker):=by
 have h:=LV m
 by_cases e : m.asks = true
 ·rw [e] at h
  have e2 : m.asker = m.src:=if_pos e
  obtain ⟨k,c,s,d,ky,sl,dn,pl,pr,l,⟨ik,iv,ir,ig⟩,co⟩:=m
  refine A0 AB Tryz.func163 rfl rfl (Nat.le_of_ble_eq_true rfl) ?_
  refine wk [0,1,2,4] [] A1 (AD @h) ?_;with_reducible repeat' first|constructor|intro hc;try simp only[A3] at hc
  refine ⟨_,_,rfl,rfl,?_⟩;simp [AE,A6,A5,A4,e2]
 ·have e : m.asks = false:=by simpa using e
  rw [e] at h
  have e2 : m.asker = m.dst:=if_neg (by simp [e])
  obtain ⟨k,c,s,d,ky,sl,dn,pl,pr,l,⟨ik,iv,ir,ig⟩,co⟩:=m
  refine A0 AB Tryz.func163 rfl rfl (Nat.le_of_ble_eq_true rfl) ?_
  refine wk [0,1,2,4] [] A1 (AD @h) ?_;with_reducible repeat' first|constructor|intro hc;try simp only[A3] at hc
  refine ⟨_,_,rfl,rfl,?_⟩;simp [AE,A6,A5,A4,e2]
def B8 (s : List UInt8) : Bool:=decide ((s.length : Int) ≥ 1) && decide ((s.length : Int) ≤ 20)
def isVal (n : Int) : Bool:=decide (0 ≤ n) && decide (n ≤ 1048576)
def Ak (x : Item) : Bool:=B8 x.key && isVal x.value && isVal x.version
theorem Hr (s : List UInt8) : Go.Gar.Fn Tryz.prog 187 [.s s] (.b (B8 s)):=by
 refine A0 AB Tryz.func187 rfl rfl (Nat.le_of_ble_eq_true rfl) ?_
 by_cases h : (s.length : Int) ≥ 1
 ·refine wk [0,2] [] A1 A1 ?_;with_reducible repeat' first|constructor|intro hc;try simp only[A3] at hc
  all_goals (refine ⟨_,_,rfl,rfl,?_⟩;simp only [C4,B8,h,decide_true,Bool.true_and])
 ·refine wk [0,2] [] A1 A1 ?_;with_reducible repeat' first|constructor|intro hc;try simp only[A3] at hc
  all_goals (refine ⟨_,_,rfl,rfl,?_⟩;simp only [C4,B8,h,decide_false,Bool.false_and])
theorem EZ (n : Int) : Go.Gar.Fn Tryz.prog 188 [.i .i64 n] (.b (isVal n)):=by
 refine A0 AB Tryz.func188 rfl rfl (Nat.le_of_ble_eq_true rfl) ?_
 refine wk [0,2] [] A1 A1 ?_;with_reducible repeat' first|constructor|intro hc;try simp only[A3] at hc
 all_goals (refine ⟨_,_,rfl,rfl,?_⟩;simp_all [C4,isVal] <;> omega)
abbrev Gv : List Nat:=[0,1,2,3,4,5,12,17,30]
abbrev H8 : List Nat:=[0,1,4,5,10,12,13,14,24]
theorem OU {a b : List Int} {k : Nat} (hka : k < a.length) (h2 : k < b.length) (hpre : a.take k = b.take k) : (a.getD k 0 = b.getD k 0) ↔ a.take (k + 1) = b.take (k + 1):=by
 rw [List.take_succ_eq_append_getElem hka,List.take_succ_eq_append_getElem h2,hpre,List.getD_eq_getElem?_getD,List.getD_eq_getElem?_getD,List.getElem?_eq_getElem hka,List.getElem?_eq_getElem h2]
 exact ⟨fun e => congrArg (fun z => List.take k b ++ [z]) e,fun e => (List.cons.inj (List.append_cancel_left e)).1⟩
theorem Kf (a b : A8) (ha : a.list.length < 9223372036854775807) : Go.Gar.Fn Tryz.prog 115 [a.d,b.d] (.b (decide (a = b))):=by
 obtain ⟨k,c,s,d,ky,sl,dn,pl,pr,l,⟨ik,iv,ir,ig⟩,co⟩:=a
 obtain ⟨k',c',s',d',ky',sl',dn',pl',pr',l',⟨ik',iv',ir',ig'⟩,co'⟩:=b
 have ha : l.length < 9223372036854775807:=ha
 have hI:=GO ⟨ik,iv,ir,ig⟩ ⟨ik',iv',ir',ig'⟩
 refine A0 AB Tryz.func115 rfl rfl (Nat.le_of_ble_eq_true rfl) ?_
 by_cases hl : l.length = l'.length
 ·refine wd Gv [] [] A1 A1 ?_;with_reducible repeat' first|constructor|intro hc;try simp only[A3] at hc
  refine BF (fun k => k ≤ l.length ∧ l.take k = l'.take k) (fun j : Nat => ⟨[(2,.ptr 0 0 15),(3,.ptr 1 0 15),(5,.d (.i .i64 j))],[.c ((A8.mk k c s d ky sl dn pl pr l ⟨ik,iv,ir,ig⟩ co).cells.map .d),.c ((A8.mk k' c' s' d' ky' sl' dn' pl' pr' l' ⟨ik',iv',ir',ig'⟩ co').cells.map .d)],106⟩) (fun k => l.length - k) 0 ⟨Nat.zero_le _,by simp⟩ ?_ (Nat.le_refl _) ?_
  ·exact A2.ck rfl
  rintro j ⟨hk,hpre⟩
  simp only [A8.cells,List.map_cons,List.map_nil]
  by_cases hka : j < l.length
  ·have hab:=OU hka (by omega) hpre
   refine wd Gv [] [] A1 A1 ?_;with_reducible repeat' first|constructor|intro hc;try simp only[A3] at hc
   ·have : l ≠ l':=fun e => by subst e;exact hc rfl
    refine ⟨_,_,rfl,rfl,?_⟩;simp [AE,A6,A5,A4,this]
   ·refine ⟨j + 1,⟨hka,hab.1 hc⟩,by omega,Nat.le_refl _,?_⟩
    simp only [A8.cells,List.map_cons,List.map_nil]
    exact A2.ck rfl
  ·have : l = l':=by
    have e : j = l.length:=by omega
    subst e
    rwa [List.take_length,hl,List.take_length] at hpre
   subst this
   refine wd Gv [] [] (AD hI) A1 ?_;with_reducible repeat' first|constructor|intro hc;try simp only[A3] at hc
   all_goals (clear ha hl hk hpre hka;refine ⟨_,_,rfl,rfl,?_⟩;simp_all [C4,DW])
 ·have : l ≠ l':=fun e => hl (by rw [e])
  refine wd Gv [] [] A1 A1 ?_;with_reducible repeat' first|constructor|intro hc;try simp only[A3] at hc
  refine ⟨_,_,rfl,rfl,?_⟩;simp [AE,A6,A5,A4,this]
theorem SN (a b : List Int) (ha : a.length < 9223372036854775807) : Go.Gar.Fn Tryz.prog 203 [.is a,.is b] (.b (decide (a = b))):=by
 refine A0 AB Tryz.func203 rfl rfl (Nat.le_of_ble_eq_true rfl) ?_
 by_cases hl : a.length = b.length
 ·refine wd H8 [] [] A1 A1 ?_;with_reducible repeat' first|constructor|intro hc;try simp only[A3] at hc
  refine BF (fun k => k ≤ a.length ∧ a.take k = b.take k) (fun k : Nat => ⟨[(0,.d (.is a)),(1,.d (.is b)),(12,.d (.i .i64 a.length)),(13,.d (.i .i64 k))],[],26⟩) (fun k => a.length - k) 0 ⟨Nat.zero_le _,by simp⟩ ?_ (Nat.le_refl _) ?_
  ·exact A2.ck rfl
  rintro k ⟨hk,hpre⟩
  by_cases hka : k < a.length
  ·have hab:=OU hka (by omega) hpre
   refine wd H8 [] [] A1 A1 ?_;with_reducible repeat' first|constructor|intro hc;try simp only[A3] at hc
   ·have : a ≠ b:=fun e => by subst e;exact hc rfl
    refine ⟨_,_,rfl,rfl,?_⟩;simp [AE,A6,A5,A4,this]
   ·refine ⟨k + 1,⟨hka,hab.1 hc⟩,by omega,Nat.le_refl _,?_⟩
    exact A2.ck rfl
  ·have : a = b:=by
    have e : k = a.length:=by omega
    subst e
    rwa [List.take_length,hl,List.take_length] at hpre
   refine wd H8 [] [] A1 A1 ?_;with_reducible repeat' first|constructor|intro hc;try simp only[A3] at hc
   refine ⟨_,_,rfl,rfl,?_⟩;simp [AE,A6,A5,A4,this]
 ·have : a ≠ b:=fun e => hl (by rw [e])
  refine wd H8 [] [] A1 A1 ?_;with_reducible repeat' first|constructor|intro hc;try simp only[A3] at hc
  refine ⟨_,_,rfl,rfl,?_⟩;simp [AE,A6,A5,A4,this]
def QC (l : List Int) (x : Int) : Int:=if x ∈ l then (l.idxOf x : Nat) else -1
theorem Uo {l : List Int} {k : Nat} {x : Int} (hk : k < l.length) (hpre : x ∉ l.take k) (h : x = l.getD k 0) : x ∈ l ∧ l.idxOf x = k:=by
 rw [List.getD_eq_getElem?_getD,List.getElem?_eq_getElem hk] at h
 simp only [Option.getD_some] at h
 have hm : x ∈ l:=by rw [h];exact List.getElem_mem hk
 refine ⟨hm,?_⟩
 have e : l = l.take k ++ (l[k] :: l.drop (k + 1)):=by rw [← List.drop_eq_getElem_cons hk,List.take_append_drop]
 have hi : l.idxOf x = (l.take k ++ (l[k] :: l.drop (k + 1))).idxOf x:=by rw [← e]
 rw [hi,List.idxOf_append,if_neg hpre,← h,List.idxOf_cons_self,List.length_take]
 omega
theorem VM {l : List Int} {k : Nat} {x : Int} (hk : k < l.length) (hpre : x ∉ l.take k) (h : ¬ x = l.getD k 0) : x ∉ l.take (k + 1):=by
 rw [List.take_succ_eq_append_getElem hk,List.mem_append]
 rw [List.getD_eq_getElem?_getD,List.getElem?_eq_getElem hk] at h
 simp at h
 rintro (h1 | h1)
 ·exact hpre h1
 ·simp at h1;exact h h1
theorem WC (l : List Int) (x : Int) (hl : l.length < 9223372036854775807) : Go.Gar.Fn Tryz.prog 176 [.is l,.i .i64 x] (.i .i64 (QC l x)):=by
 refine A0 AB Tryz.func176 rfl rfl (Nat.le_of_ble_eq_true rfl) ?_
 refine wk [0,1,4,5,7,8,9,16] [] A1 A1 ?_;with_reducible repeat' first|constructor|intro hc;try simp only[A3] at hc
 refine BF (fun k => k ≤ l.length ∧ x ∉ l.take k) (fun k : Nat => ⟨[(0,.d (.is l)),(1,.d (.i .i64 x)),(7,.d (.i .i64 l.length)),(8,.d (.i .i64 k))],[],19⟩) (fun k => l.length - k) 0 ⟨Nat.zero_le _,by simp⟩ ?_ (Nat.le_refl _) ?_
 ·exact A2.ck rfl
 rintro k ⟨hk,hpre⟩
 by_cases hkl : k < l.length
 ·refine wk [0,1,4,5,7,8,9,16] [] A1 A1 ?_;with_reducible repeat' first|constructor|intro hc;try simp only[A3] at hc
  ·obtain ⟨h1,h2⟩:=Uo hkl hpre hc
   have e : QC l x = (k : Nat):=by unfold QC;rw [if_pos h1,h2]
   refine ⟨_,_,rfl,rfl,?_⟩;simp [AE,A6,A5,A4,e]
  ·refine ⟨k + 1,⟨hkl,VM hkl hpre hc⟩,by omega,Nat.le_refl _,?_⟩
   exact A2.ck rfl
 ·have e : k = l.length:=by omega
  have e2 : QC l x = -1:=by unfold QC;rw [if_neg];rwa [e,List.take_length] at hpre
  refine wk [0,1,4,5,7,8,9,16] [] A1 A1 ?_;with_reducible repeat' first|constructor|intro hc;try simp only[A3] at hc
  refine ⟨_,_,rfl,rfl,?_⟩;simp [AE,A6,A5,A4,e2]
theorem OW (l : List Int) (x : Int) (hl : l.length < 9223372036854775807) : Go.Gar.Fn Tryz.prog 110 [.is l,.i .i64 x] (.b (decide (x ∈ l))):=by
 have hi:=WC l x hl
 refine A0 AB Tryz.func110 rfl rfl (Nat.le_of_ble_eq_true rfl) ?_
 refine wk [0,1,4] [] A1 (AD @hi) ?_;with_reducible repeat' first|constructor|intro hc;try simp only[A3] at hc
 have e : decide (QC l x ≥ 0) = decide (x ∈ l):=by
  unfold QC
  by_cases h : x ∈ l <;> simp [h]
 refine ⟨_,_,rfl,rfl,?_⟩;simp [AE,A6,A5,A4,e]
end Wi
end Go.Proofs.YtnahkfkljohjaaaGreatDoor
