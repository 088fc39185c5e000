/- Part 17 of the texts of this proof, put together by a program and made short.
Conditions: none; what each theorem asks stands in its own hypotheses. -/
import Derived.Test.YtnahkfkljohjaaaGreatDoorH15
import Derived.Test.YtnahkfkljohjaaaGreatDoorH16
import Derived.Sort.Walk0
import Derived.KernelRfl
import Derived.RangeFuncIn
import Derived.OpenShut
import Derived.ProofKit
import Derived.CallsIn
import Derived.RangeFuncLeaves
import Derived.OrdersIn
import Derived.TacticsIn
import Derived.ChangeKeysEq
import Derived.Laws.AppendOwn
import Derived.Laws.OwnMore
import Derived.Laws.MakeOwn
import Derived.Laws.Rows
import Derived.Laws.Cells
import Derived.Laws.Tables
import Derived.Laws.CopyRow
import Derived.Laws.Strings
import Derived.Laws.IdiomStrings
import Derived.Laws.BytesArg
import Derived.Sort.Grow
import Derived.Laws.Cover3
import Derived.RecoverIn
import Derived.Test.YtnahkfkljohjaaaGreatDoorProg
set_option linter.unusedSimpArgs false
set_option linter.unusedVariables false
set_option linter.unnecessarySimpa false
set_option maxHeartbeats 40000000
namespace Go.Proofs.YtnahkfkljohjaaaGreatDoor
namespace Nd
open Go.Gar
open Wi (A8 B0 Ak)
set_option maxRecDepth 4000
abbrev HG : List Nat:=[0,1,4,5,7,8,9,16]
structure Cs (n : Node) : Prop where
 id : i64 n.view.id
 li : ∀ y ∈ n.view.list,i64 y
 vb : n.view.base.length ≤ 1000
 vl : n.view.list.length ≤ 1000
 cl : ∀ x ∈ n.calls.op,Ab x.msg
 cn : n.calls.op.length ≤ 1048576
 sl : ∀ x ∈ n.seen,Ab x.told
 sn : n.seen.length ≤ 1048576
 kn : n.keep.length ≤ 1048576
 fl : n.finger.left.length ≤ 1048576
 ml : n.mirror.left.length ≤ 1048576
 tl : n.client.left.length ≤ 1048576
def KU (n : Node) : Bool:=!(n.seen.any fun p => decide (p.told.src ≠ n.view.id))
def AG (n : Node) : Bool:=(decide (0 ≤ n.clock) && decide (n.clock ≤ 1099511627776)) && (decide (0 ≤ n.bad) && ((decide (0 ≤ n.next) && decide (n.next < 16)) && (AF n.view && ((decide (n.calls.id = n.view.id) && Cp n.calls) && (Bp n.phase n.of_ && (Bd n.keep && (FM n.seen && KU n)))))))
def PH {α : Type} (q : α → Bool) (l : List α) : Int:=match l.findIdx? q with
 | some n => (n : Int)
 | none => -1
theorem Xj {α : Type} {q : α → Bool} {l : List α} {k : Nat} {x : α} (hx : l[k]? = some x) (h : q x = true) (hn : (l.take k).any q = false) : PH q l = k:=by
 unfold PH;rw [JV hx h hn]
theorem R2 {α : Type} {q : α → Bool} {l : List α} (hn : l.any q = false) : PH q l = -1:=by
 unfold PH
 have : l.findIdx? q = none:=by
  rw [List.findIdx?_eq_none_iff]
  rw [List.any_eq_false] at hn
  intro x hx
  simpa using hn x hx
 rw [this]
theorem X9 {α : Type} (q : α → Bool) (l : List α) : decide (PH q l ≥ 0) = l.any q:=by
 cases h : l.any q with
 | false => rw [R2 h];rfl
 | true =>
  obtain ⟨x,hx,hp⟩:=List.any_eq_true.1 h
  have : l.findIdx? q ≠ none:=by
   rw [Ne,List.findIdx?_eq_none_iff]
   intro hh
   have:=hh x hx
   rw [hp] at this;cases this
  unfold PH
  split
  ·exact decide_eq_true (by omega)
  ·contradiction
theorem bS (n : Node) : B4 Tryz.prog 77 [.ptr 0 0 76] [.c (AM n)] (.d (.b (decide (0 ≤ n.clock) && decide (n.clock ≤ 1099511627776)))) [.c (AM n)]:=by
 refine A7 AB Tryz.func77 rfl rfl (Nat.le_of_ble_eq_true rfl) ?_
 unfold AM
 by_cases h1 : 0 ≤ n.clock
 ·have f1 : decide (n.clock ≥ 0) = true:=decide_eq_true h1
  rw [decide_eq_true h1,Bool.true_and]
  refine wk [0,1] [] (AD f1) A1 ?_;with_reducible repeat' first|constructor|intro hc;try simp only[A3] at hc
  exact ⟨⟨[(1,.d (.b (decide (n.clock ≤ 1099511627776))))],[.c (AM n)],_⟩,(A2.ck rfl),Nat.le_refl _,_,_,rfl,rfl,rfl,rfl⟩
 ·have f1 : decide (n.clock ≥ 0) = false:=decide_eq_false h1
  rw [decide_eq_false h1,Bool.false_and]
  refine wk [0,1] [] (AD f1) A1 ?_;with_reducible repeat' first|constructor|intro hc;try simp only[A3] at hc
  exact ⟨⟨[(1,.d (.b false))],[.c (AM n)],_⟩,(A2.ck rfl),Nat.le_refl _,_,_,rfl,rfl,rfl,rfl⟩
theorem ao (n : Node) : B4 Tryz.prog 78 [.ptr 0 0 76] [.c (AM n)] (.d (.b (decide (0 ≤ n.bad)))) [.c (AM n)]:=by
 refine A7 AB Tryz.func78 rfl rfl (Nat.le_of_ble_eq_true rfl) ?_
 unfold AM
 refine wk [0,1] [] A1 A1 ?_;with_reducible repeat' first|constructor|intro hc;try simp only[A3] at hc
 exact ⟨⟨[(1,.d (.b (decide (0 ≤ n.bad))))],[.c (AM n)],_⟩,(A2.ck rfl),Nat.le_refl _,_,_,rfl,rfl,rfl,rfl⟩
theorem bC (n : Node) : B4 Tryz.prog 79 [.ptr 0 0 76] [.c (AM n)] (.d (.b (decide (0 ≤ n.next) && decide (n.next < 16)))) [.c (AM n)]:=by
 refine A7 AB Tryz.func79 rfl rfl (Nat.le_of_ble_eq_true rfl) ?_
 unfold AM
 by_cases h1 : 0 ≤ n.next
 ·have f1 : decide (n.next ≥ 0) = true:=decide_eq_true h1
  rw [decide_eq_true h1,Bool.true_and]
  refine wk [0,1] [] (AD f1) A1 ?_;with_reducible repeat' first|constructor|intro hc;try simp only[A3] at hc
  exact ⟨⟨[(1,.d (.b (decide (n.next < 16))))],[.c (AM n)],_⟩,(A2.ck rfl),Nat.le_refl _,_,_,rfl,rfl,rfl,rfl⟩
 ·have f1 : decide (n.next ≥ 0) = false:=decide_eq_false h1
  rw [decide_eq_false h1,Bool.false_and]
  refine wk [0,1] [] (AD f1) A1 ?_;with_reducible repeat' first|constructor|intro hc;try simp only[A3] at hc
  exact ⟨⟨[(1,.d (.b false))],[.c (AM n)],_⟩,(A2.ck rfl),Nat.le_refl _,_,_,rfl,rfl,rfl,rfl⟩
theorem ah (n : Node) (h : Cs n) : B4 Tryz.prog 80 [.ptr 0 0 76] [.c (AM n)] (.d (.b (AF n.view))) [.c (AM n)]:=by
 have c1:=L2 n.view (by have:=h.vb;omega) (by have:=h.vl;omega)
 refine A7 AB Tryz.func80 rfl rfl (Nat.le_of_ble_eq_true rfl) ?_
 generalize AF n.view = b at *
 unfold View.d View.cells at c1
 unfold AM
 refine wk [0,1] [] A1 (AD @c1) ?_;with_reducible repeat' first|constructor|intro hc;try simp only[A3] at hc
 exact ⟨⟨[(1,.d (.b b))],[.c (AM n)],_⟩,(A2.ck rfl),Nat.le_refl _,_,_,rfl,rfl,rfl,rfl⟩
theorem an (n : Node) (h : Cs n) : B4 Tryz.prog 82 [.ptr 0 0 76] [.c (AM n)] (.d (.b (decide (n.calls.id = n.view.id) && Cp n.calls))) [.c (AM n)]:=by
 have c1:=UB n.calls h.cl
 refine A7 AB Tryz.func82 rfl rfl (Nat.le_of_ble_eq_true rfl) ?_
 generalize Cp n.calls = b at *
 unfold Calls.d Calls.cells at c1
 unfold AM
 by_cases h1 : n.calls.id = n.view.id
 ·have f1:=AA h1
  rw [decide_eq_true h1,Bool.true_and]
  refine wk [0,1] [] (AD f1) (AD @c1) ?_;with_reducible repeat' first|constructor|intro hc;try simp only[A3] at hc
  exact ⟨⟨[(1,.d (.b b))],[.c (AM n)],_⟩,(A2.ck rfl),Nat.le_refl _,_,_,rfl,rfl,rfl,rfl⟩
 ·have f1:=eq_false' h1
  rw [decide_eq_false h1,Bool.false_and]
  refine wk [0,1] [] (AD f1) (AD @c1) ?_;with_reducible repeat' first|constructor|intro hc;try simp only[A3] at hc
  exact ⟨⟨[(1,.d (.b false))],[.c (AM n)],_⟩,(A2.ck rfl),Nat.le_refl _,_,_,rfl,rfl,rfl,rfl⟩
theorem aV (n : Node) : B4 Tryz.prog 84 [.ptr 0 0 76] [.c (AM n)] (.d (.b (Bp n.phase n.of_))) [.c (AM n)]:=by
 have c1:=Nn n.phase n.of_
 refine A7 AB Tryz.func84 rfl rfl (Nat.le_of_ble_eq_true rfl) ?_
 generalize Bp n.phase n.of_ = b at *
 unfold AM
 refine wk [0,1] [] A1 (AD @c1) ?_;with_reducible repeat' first|constructor|intro hc;try simp only[A3] at hc
 exact ⟨⟨[(1,.d (.b b))],[.c (AM n)],_⟩,(A2.ck rfl),Nat.le_refl _,_,_,rfl,rfl,rfl,rfl⟩
theorem bM (n : Node) (h : Cs n) : B4 Tryz.prog 86 [.ptr 0 0 76] [.c (AM n)] (.d (.b (Bd n.keep))) [.c (AM n)]:=by
 have c1:=Ml n.keep (by have:=h.kn;omega)
 refine A7 AB Tryz.func86 rfl rfl (Nat.le_of_ble_eq_true rfl) ?_
 generalize Bd n.keep = b at *
 unfold AM
 refine wk [0,1] [] A1 (AD @c1) ?_;with_reducible repeat' first|constructor|intro hc;try simp only[A3] at hc
 exact ⟨⟨[(1,.d (.b b))],[.c (AM n)],_⟩,(A2.ck rfl),Nat.le_refl _,_,_,rfl,rfl,rfl,rfl⟩
theorem ax (n : Node) (h : Cs n) : B4 Tryz.prog 88 [.ptr 0 0 76] [.c (AM n)] (.d (.b (FM n.seen))) [.c (AM n)]:=by
 have c1:=Xp n.seen h.sl (by have:=h.sn;omega)
 refine A7 AB Tryz.func88 rfl rfl (Nat.le_of_ble_eq_true rfl) ?_
 generalize FM n.seen = b at *
 unfold AM
 refine wk [0,1] [] A1 (AD @c1) ?_;with_reducible repeat' first|constructor|intro hc;try simp only[A3] at hc
 exact ⟨⟨[(1,.d (.b b))],[.c (AM n)],_⟩,(A2.ck rfl),Nat.le_refl _,_,_,rfl,rfl,rfl,rfl⟩
theorem ZM (n : Node) (x : Past) : B4 Tryz.prog 92 [.d x.d,.ptr 0 0 76] [.c (AM n)] (.d (.b (decide (x.told.src ≠ n.view.id)))) [.c (AM n)]:=by
 refine A7 AB Tryz.func92 rfl rfl (Nat.le_of_ble_eq_true rfl) ?_
 unfold AM Past.d Past.cells
 by_cases h1 : x.told.src = n.view.id
 ·have f1:=AO h1
  rw [decide_eq_false (fun hh => hh h1)]
  refine wk [0,1,2,3] [] (AD f1) A1 ?_;with_reducible repeat' first|constructor|intro hc;try simp only[A3] at hc
  exact ⟨⟨[(3,.d (.b false))],[.c (AM n)],_⟩,(A2.ck rfl),Nat.le_refl _,_,_,rfl,rfl,rfl,rfl⟩
 ·have f1:=BJ h1
  rw [decide_eq_true h1]
  refine wk [0,1,2,3] [] (AD f1) A1 ?_;with_reducible repeat' first|constructor|intro hc;try simp only[A3] at hc
  exact ⟨⟨[(3,.d (.b true))],[.c (AM n)],_⟩,(A2.ck rfl),Nat.le_refl _,_,_,rfl,rfl,rfl,rfl⟩
theorem Vv (n : Node) (l : List Past) (hn : l.length ≤ 9223372036854775807) : B4 Tryz.prog 138 [.d (AS l),.fn (.func 92) [] [.ptr 0 0 76]] [.c (AM n)] (.d (.i .i64 (PH (fun p => decide (p.told.src ≠ n.view.id)) l))) [.c (AM n)]:=by
 refine A7 AB Tryz.func138 rfl rfl (Nat.le_of_ble_eq_true rfl) ?_
 have hC:=ZM n
 generalize hq : (fun p : Past => decide (p.told.src ≠ n.view.id)) = q at *
 have hC' : ∀ x,B4 Tryz.prog 92 [.d x.d,.ptr 0 0 76] [.c (AM n)] (.d (.b (q x))) [.c (AM n)]:=fun x => by have:=hC x;rw [← hq];exact this
 clear hC
 refine wk HG [] A1 A1 ?_;with_reducible repeat' first|constructor|intro hc;try simp only[A3] at hc
 refine B1 (fun k => k ≤ l.length ∧ (l.take k).any q = false) (fun k : Nat => [(8,.d (.i .i64 k))]) (fun k => l.length - k) 0 ⟨Nat.zero_le _,rfl⟩ (fun _ => rfl) ?_ ?_
 ·exact A2.ck rfl
 rintro k ⟨hk,hpre⟩
 by_cases hkl : k < l.length
 ·obtain ⟨x,hx⟩:=AR hkl
  have hA:=EY (p:=q) hx
  rw [hpre,Bool.false_or] at hA
  have c1:=hC' x
  unfold Past.d Past.cells at c1
  cases hb : q x with
  | true =>
   rw [hb] at c1
   have ix1:=hx;have d1:=Ds.mk [0] (c1);refine wk HG [] A1 A1 ?_;clear d1 ix1;with_reducible repeat' first|constructor|intro hc;try simp only[A3] at hc
   rw [Xj hx hb hpre]
   exact ⟨⟨[(4,.d (.i .i64 k))],[.c (AM n)],_⟩,(A2.ck rfl),Nat.le_refl _,_,_,rfl,rfl,rfl,rfl⟩
  | false =>
   rw [hb] at c1
   have ix1:=hx;have d1:=Ds.mk [0] (c1);refine wk HG [] A1 A1 ?_;clear d1 ix1;with_reducible repeat' first|constructor|intro hc;try simp only[A3] at hc
   refine ⟨k + 1,⟨hkl,by rw [hA,hb]⟩,by omega,Nat.le_refl _,?_⟩
   exact A2.ck rfl
 ·have e : k = l.length:=by omega
  subst e
  rw [List.take_length] at hpre
  refine wk HG [] A1 A1 ?_;with_reducible repeat' first|constructor|intro hc;try simp only[A3] at hc
  rw [R2 hpre]
  exact ⟨⟨[(4,.d (.i .i64 (-1)))],[.c (AM n)],_⟩,(A2.ck rfl),Nat.le_refl _,_,_,rfl,rfl,rfl,rfl⟩
theorem Vu (n : Node) (l : List Past) (hn : l.length ≤ 9223372036854775807) : B4 Tryz.prog 91 [.d (AS l),.fn (.func 92) [] [.ptr 0 0 76]] [.c (AM n)] (.d (.b (l.any fun p => decide (p.told.src ≠ n.view.id)))) [.c (AM n)]:=by
 refine A7 AB Tryz.func91 rfl rfl (Nat.le_of_ble_eq_true rfl) ?_
 have c1:=Vv n l hn
 rw [← X9]
 generalize PH (fun p : Past => decide (p.told.src ≠ n.view.id)) l = z at *
 have d1:=Ds.mk [0] (c1);refine wk [0,1,4] [] A1 A1 ?_;clear d1;with_reducible repeat' first|constructor|intro hc;try simp only[A3] at hc
 exact ⟨⟨[(4,.d (.b (decide (z ≥ 0))))],[.c (AM n)],_⟩,(A2.ck rfl),Nat.le_refl _,_,_,rfl,rfl,rfl,rfl⟩
theorem bN (n : Node) (h : Cs n) : B4 Tryz.prog 90 [.ptr 0 0 76] [.c (AM n)] (.d (.b (KU n))) [.c (AM n)]:=by
 have c1:=Vu n n.seen (by have:=h.sn;omega)
 refine A7 AB Tryz.func90 rfl rfl (Nat.le_of_ble_eq_true rfl) ?_
 unfold KU
 generalize (n.seen.any fun p => decide (p.told.src ≠ n.view.id)) = b at *
 unfold AM
 have d1:=Ds.mk [0] (c1);refine wk [0,1] [] A1 A1 ?_;clear d1;with_reducible repeat' first|constructor|intro hc;try simp only[A3] at hc
 exact ⟨⟨[(1,.d (.b !b))],[.c (AM n)],_⟩,(A2.ck rfl),Nat.le_refl _,_,_,rfl,rfl,rfl,rfl⟩
theorem AQ (n : Node) (h : Cs n) : Go.Gar.Fn Tryz.prog 35 [n.d] (.b (AG n)):=by
 refine A0 AB Tryz.func35 rfl rfl (Nat.le_of_ble_eq_true rfl) ?_
 have c1:=ZJ n _ _ _ _ _ _ _ _ _ (bS n) (ao n) (bC n) (ah n h) (an n h) (aV n) (bM n h) (ax n h) (bN n h)
 unfold AG
 generalize ((decide (0 ≤ n.clock) && decide (n.clock ≤ 1099511627776)) && _) = B at *
 have d1:=Ds.mk [0,1] (c1);refine wk [0,1,2] [] A1 A1 ?_;clear d1;with_reducible repeat' first|constructor|intro hc;try simp only[A3] at hc
 refine ⟨_,_,rfl,rfl,?_⟩;simp [AE,A6,A5,A4]
theorem Wq (n : Node) (h : Cs n) : Go.Gar.Fn Tryz.prog 23 [n.d] (.b (KU n)):=by
 refine A0 AB Tryz.func23 rfl rfl (Nat.le_of_ble_eq_true rfl) ?_
 have hn : n.seen.length ≤ 1048576:=h.sn
 have hT : KU n = !(n.seen.any fun p => decide (p.told.src ≠ n.view.id)):=rfl
 generalize hq : (fun p : Past => decide (p.told.src ≠ n.view.id)) = q at *
 have hq' : ∀ x : Past,(x.told.src != n.view.id) = q x:=fun x => by rw [← hq];by_cases e : x.told.src = n.view.id <;> simp [e]
 refine wd [0,1,2,3,8,21] [] [] A1 A1 ?_;with_reducible repeat' first|constructor|intro hc;try simp only[A3] at hc
 refine B1 (fun k => k ≤ n.seen.length ∧ (n.seen.take k).any q = false) (fun k : Nat => [(3,.d (.i .i64 k))]) (fun k => n.seen.length - k) 0 ⟨Nat.zero_le _,rfl⟩ (fun _ => rfl) ?_ ?_
 ·exact A2.ck rfl
 rintro k ⟨hk,hpre⟩
 by_cases hkl : k < n.seen.length
 ·obtain ⟨x,hx⟩:=AR hkl
  have hA:=EY (p:=q) hx
  rw [hpre,Bool.false_or] at hA
  have f1:=hq' x
  cases hb : q x with
  | true =>
   rw [hb] at f1
   have ix1:=hx;refine wd [0,1,2,3,8,21] [] [] (AD f1) A1 ?_;clear ix1;with_reducible repeat' first|constructor|intro hc;try simp only[A3] at hc
   refine ⟨_,_,rfl,rfl,?_⟩
   simp only [C0];rw [hT,IL hx hb];rfl
  | false =>
   rw [hb] at f1
   have ix1:=hx;refine wd [0,1,2,3,8,21] [] [] (AD f1) A1 ?_;clear ix1;with_reducible repeat' first|constructor|intro hc;try simp only[A3] at hc
   refine ⟨k + 1,⟨hkl,by rw [hA,hb]⟩,by omega,Nat.le_refl _,?_⟩
   exact A2.ck rfl
 ·have e : k = n.seen.length:=by omega
  subst e
  rw [List.take_length] at hpre
  refine wd [0,1,2,3,8,21] [] [] A1 A1 ?_;with_reducible repeat' first|constructor|intro hc;try simp only[A3] at hc
  refine ⟨_,_,rfl,rfl,?_⟩
  simp only [C0];rw [hT,hpre];rfl
theorem BV (n : Node) (h : Cs n) : Go.Gar.Fn Tryz.prog 9 [n.d] (.b (AG n)):=by
 have c1:=Wq n h
 have c2:=JX n.view h.id h.li (by have:=h.vb;omega) (by have:=h.vl;omega)
 have c3:=Tn n.calls h.cl (by have:=h.cn;omega)
 have c4:=VQ n.seen h.sl (by have:=h.sn;omega)
 have c5:=VE n.phase n.of_
 have c6:=OA n.keep (by have:=h.kn;omega)
 have hT : AG n = ((decide (0 ≤ n.clock) && decide (n.clock ≤ 1099511627776)) && (decide (0 ≤ n.bad) && ((decide (0 ≤ n.next) && decide (n.next < 16)) && (AF n.view && ((decide (n.calls.id = n.view.id) && Cp n.calls) && (Bp n.phase n.of_ && (Bd n.keep && (FM n.seen && KU n)))))))):=rfl
 unfold View.d View.cells at c2
 unfold Calls.d Calls.cells at c3
 refine A0 AB Tryz.func9 rfl rfl (Nat.le_of_ble_eq_true rfl) ?_
 generalize AG n = R at *
 generalize KU n = g1 at *
 generalize AF n.view = g2 at *
 generalize Cp n.calls = g3 at *
 generalize FM n.seen = g4 at *
 generalize Bp n.phase n.of_ = g5 at *
 generalize Bd n.keep = g6 at *
 clear h
 refine wk [0,1,2] [] A1 (Pe @c1 @c2 @c3 @c4 @c5 @c6) ?_;with_reducible repeat' first|constructor|intro hc;try simp only[A3] at hc
 all_goals (clear c1 c2 c3 c4 c5 c6;refine ⟨_,_,rfl,rfl,?_⟩;simp only [C0];refine congrArg D.b ?_;rw [hT];clear hT;grind)
end Nd
end Go.Proofs.YtnahkfkljohjaaaGreatDoor
