/- Part 25 of the texts of this proof, put together by a program and made short.
Conditions: none; what each theorem asks stands in its own hypotheses. -/
import Derived.Test.YtnahkfkljohjaaaGreatDoorH24
import Derived.Sort.Walk0
import Derived.KernelRfl
import Derived.RangeFuncIn
import Derived.OpenShut
import Derived.ProofKit
import Derived.CallsIn
import Derived.RangeFuncLeaves
import Derived.OrdersIn
import Derived.TacticsIn
import Derived.ChangeKeysEq
import Derived.Laws.AppendOwn
import Derived.Laws.OwnMore
import Derived.Laws.MakeOwn
import Derived.Laws.Rows
import Derived.Laws.Cells
import Derived.Laws.Tables
import Derived.Laws.CopyRow
import Derived.Laws.Strings
import Derived.Laws.IdiomStrings
import Derived.Laws.BytesArg
import Derived.Sort.Grow
import Derived.Laws.Cover3
import Derived.RecoverIn
import Derived.Test.YtnahkfkljohjaaaGreatDoorProg
set_option linter.unusedSimpArgs false
set_option linter.unusedVariables false
set_option linter.unnecessarySimpa false
set_option maxHeartbeats 40000000
namespace Go.Proofs.YtnahkfkljohjaaaGreatDoor
namespace Nd
open Go.Gar
open Wi (A8 B0 Ak AX B8 mC)
set_option maxRecDepth 4000
abbrev I3 : List Nat:=[0,1,2,3,4,5,17,24]
abbrev CI : List Nat:=[0,1,2,3,4,5,6,7,8,9,21,25,26,27,34,42]
abbrev H6 : List Nat:=[0,1,2,3,26]
theorem L4 {l : Look} (h : DU l = true) : 0 ≤ l.hops ∧ l.hops ≤ 41:=by
 unfold DU at h
 simp only [Bool.and_eq_true,decide_eq_true_eq] at h
 exact ⟨h.1.1.2,h.1.2⟩
theorem RO {l : Look} (h : l.hops + 1 > 40) : GQ l = ⟨l.key,l.at_,l.hops + 1,l.slow,l.found,211⟩:=by unfold GQ;rw [if_pos h]
theorem RI {l : Look} (h : ¬ l.hops + 1 > 40) : GQ l = ⟨l.key,l.at_,l.hops + 1,l.slow,l.found,l.code⟩:=by unfold GQ;rw [if_neg h]
theorem ZI (v : View) (l : Look) (hb : v.base.length ≤ 1000) (hl : v.list.length ≤ 1000) : Go.Gar.Fn Tryz.prog 174 [v.d,l.d] (PR v l).d:=by
 have c1:=Am v hb hl
 have c2:=Kl l
 have c3:=Kz l
 have hT : PR v l = if AF v && (DU l && !lookO l) then (if l.hops + 1 > 40 then GQ l else ⟨l.key,(CV v l.key true).1,l.hops + 1,true,(CV v l.key true).2,l.code⟩) else l:=rfl
 have c4:=Rn l
 have hR:=L4 (l:=l)
 have hhi:=RO (l:=l)
 have hlo:=RI (l:=l)
 obtain ⟨id,base,list,pred,f⟩:=v
 refine A0 AB Tryz.func174 rfl rfl (Nat.le_of_ble_eq_true rfl) ?_
 generalize DU l = b2 at *
 generalize lookO l = b3 at *
 cases h1 : AF ⟨id,base,list,pred,f⟩ with
 | false =>
  rw [h1] at c1 hT
  rw [hT]
  unfold Look.d Look.cells
  have sc : No 3:=trivial;refine wk I3 [] A1 (AD @c1) ?_;clear sc;with_reducible repeat' first|constructor|intro hc;try simp only[A3] at hc
  refine ⟨_,_,rfl,rfl,?_⟩;simp [AE,A6,A5,A4]
 | true =>
 rw [h1] at c1 hT
 cases b2 with
 | false =>
  rw [hT]
  unfold Look.d Look.cells at *
  have sc : No 3:=trivial;refine wk I3 [] A1 (Ao @c1 @c2) ?_;clear sc;with_reducible repeat' first|constructor|intro hc;try simp only[A3] at hc
  refine ⟨_,_,rfl,rfl,?_⟩;simp [AE,A6,A5,A4]
 | true =>
 cases b3 with
 | true =>
  rw [hT]
  unfold Look.d Look.cells at *
  have sc : No 3:=trivial;refine wk I3 [] A1 (Bo @c1 @c2 @c3) ?_;clear sc;with_reducible repeat' first|constructor|intro hc;try simp only[A3] at hc
  refine ⟨_,_,rfl,rfl,?_⟩;simp [AE,A6,A5,A4]
 | false =>
 replace c4:=c4 (hR rfl)
 rw [Bool.true_and,Bool.true_and,Bool.not_false,if_pos rfl] at hT
 by_cases hh : l.hops + 1 > 40
 ·rw [if_pos hh,hhi hh] at hT
  rw [hhi hh,decide_eq_false (by omega)] at c4
  rw [hT]
  unfold Look.d Look.cells at *
  have sc : No 3:=trivial;refine wk I3 [] A1 (GD @c1 @c2 @c3 @c4) ?_;clear sc;with_reducible repeat' first|constructor|intro hc;try simp only[A3] at hc
  refine ⟨_,_,rfl,rfl,?_⟩;simp [AE,A6,A5,A4]
 ·rw [if_neg hh] at hT
  rw [hlo hh,decide_eq_true (by omega)] at c4
  rw [hT]
  have c5:=Nv id base list pred f ⟨l.key,l.at_,l.hops + 1,true,l.found,l.code⟩
  have c6:=KQ id base list pred f ⟨l.key,l.at_,l.hops + 1,true,l.found,l.code⟩ hb hl
  dsimp only at c6
  generalize CV ⟨id,base,list,pred,f⟩ l.key true = q at *
  obtain ⟨q1,q2⟩:=q
  unfold Look.d Look.cells at *
  unfold JP at c5 c6
  have d1:=Ds.mk [] (c5);have d2:=Ds.mk [3,4] (c6);have sc : No 3:=trivial;refine wk I3 [] A1 (GD @c1 @c2 @c3 @c4) ?_;clear sc d2 d1;with_reducible repeat' first|constructor|intro hc;try simp only[A3] at hc
  refine ⟨_,_,rfl,rfl,?_⟩;simp [AE,A6,A5,A4]
theorem XH (id : Int) (base list : List Int) (pred : Int) (f : Nat → Int) (l : Look) (m : A8) : B4 Tryz.prog 204 [.d (View.d ⟨id,base,list,pred,f⟩),.d l.d,.d m.d] [] (.fn (.func 222) [] [.ptr 2 0 15,.ptr 1 0 6,.ptr 0 0 20]) [.c (vC id base list pred f),.c (JP l),.c (mC m)]:=by
 refine A7 AB Tryz.func204 rfl rfl (Nat.le_of_ble_eq_true rfl) ?_
 unfold vC JP mC Look.d Look.cells Wi.A8.d Wi.A8.cells
 refine wk [0,1,2,3,4,5,6] [] A1 A1 ?_;with_reducible repeat' first|constructor|intro hc;try simp only[A3] at hc
 exact ⟨_,(A2.ck rfl),Nat.zero_le _,_,_,rfl,rfl,rfl,rfl⟩
theorem Vi (l : Look) (k : Nat) : AV.oks k (JP l) = true:=rfl
theorem Yj (m : A8) (k : Nat) : AV.oks k (mC m) = true:=rfl
abbrev Ny (id : Int) (base list : List Int) (pred : Int) (f : Nat → Int) (l l0 : Look) (m : A8) (ok : Bool) (r : Lp) : List AC:=[.c (vC id base list pred f),.c (JP l),.c (mC m),.c (JP GK),.c [.d (.b ok)],.c (vC id base list pred f),.c (JP l0),.c (mC m),.lp r]
theorem Z4 (v : View) (l : Look) (m : A8) (hb : v.base.length ≤ 1000) (hl : v.list.length ≤ 1000) (hm : Ab m) : Go.Gar.Fn Tryz.prog 167 [v.d,l.d,m.d] (HW v l m).d:=by
 have c1:=Am v hb hl
 have c2:=Kl l
 have c3:=Kz l
 have hT : HW v l m = if AF v && (DU l && !lookO l) then (if Gd v l m then (if l.hops + 1 > 40 then GQ l else ⟨l.key,(We v l m).1,l.hops + 1,l.slow,(We v l m).2,l.code⟩) else l) else l:=rfl
 have c4:=Rn l
 have hR:=L4 (l:=l)
 have hhi:=RO (l:=l)
 have hlo:=RI (l:=l)
 refine A0 AB Tryz.func167 rfl rfl (Nat.le_of_ble_eq_true rfl) ?_
 generalize DU l = b2 at *
 generalize lookO l = b3 at *
 cases h1 : AF v with
 | false =>
  rw [h1] at c1 hT
  rw [hT]
  obtain ⟨id,base,list,pred,f⟩:=v
  unfold Look.d Look.cells Wi.A8.d Wi.A8.cells at *
  have sc : No 3:=trivial;refine wk CI [] A1 (AD @c1) ?_;clear sc;with_reducible repeat' first|constructor|intro hc;try simp only[A3] at hc
  refine ⟨_,_,rfl,rfl,?_⟩;simp [AE,A6,A5,A4]
 | true =>
 rw [h1] at c1 hT
 cases b2 with
 | false =>
  rw [hT]
  obtain ⟨id,base,list,pred,f⟩:=v
  unfold Look.d Look.cells Wi.A8.d Wi.A8.cells at *
  have sc : No 3:=trivial;refine wk CI [] A1 (Ao @c1 @c2) ?_;clear sc;with_reducible repeat' first|constructor|intro hc;try simp only[A3] at hc
  refine ⟨_,_,rfl,rfl,?_⟩;simp [AE,A6,A5,A4]
 | true =>
 cases b3 with
 | true =>
  rw [hT]
  obtain ⟨id,base,list,pred,f⟩:=v
  unfold Look.d Look.cells Wi.A8.d Wi.A8.cells at *
  have sc : No 3:=trivial;refine wk CI [] A1 (Bo @c1 @c2 @c3) ?_;clear sc;with_reducible repeat' first|constructor|intro hc;try simp only[A3] at hc
  refine ⟨_,_,rfl,rfl,?_⟩;simp [AE,A6,A5,A4]
 | false =>
 replace c4:=c4 (hR rfl)
 rw [Bool.true_and,Bool.true_and,Bool.not_false,if_pos rfl] at hT
 have hTo : Gd v l m = (decide (m.kind = 10) && (decide (m.src = l.at_) && (decide (m.dst = v.id) && m.right))):=rfl
 have hOn : We v l m = if m.place = v.id ∧ m.done = false then CV v l.key l.slow else (m.place,m.done):=rfl
 generalize HW v l m = R at *
 obtain ⟨id,base,list,pred,f⟩:=v
 dsimp only at hTo hOn
 have c5:=XH id base list pred f l m
 have c7:=Nv id base list pred f ⟨l.key,l.at_,l.hops + 1,l.slow,l.found,l.code⟩
 have c8:=KQ id base list pred f ⟨l.key,l.at_,l.hops + 1,l.slow,l.found,l.code⟩ hb hl
 have c9:=Wi.Cc m (lm hm)
 dsimp only at c8
 generalize m.right = mr at *
 generalize Gd ⟨id,base,list,pred,f⟩ l m = T1 at *
 generalize We ⟨id,base,list,pred,f⟩ l m = on at *
 generalize CV ⟨id,base,list,pred,f⟩ l.key l.slow = hp at *
 unfold Look.d Look.cells Wi.A8.d Wi.A8.cells at *
 have d1:=Ds.mk [] (c5);have sc : No 3:=trivial;refine wk CI [] A1 (Bo @c1 @c2 @c3) ?_;clear sc d1;with_reducible repeat' first|constructor|intro hc;try simp only[A3] at hc
 refine Aq (K:=fun r _ H' => (T1 = false ∧ H' = Ny id base list pred f l l m false r) ∨ (T1 = true ∧ l.hops + 1 > 40 ∧ H' = Ny id base list pred f (GQ l) l m false (r.left (.goto 0))) ∨ (T1 = true ∧ ¬ l.hops + 1 > 40 ∧ H' = Ny id base list pred f ⟨l.key,on.1,l.hops + 1,l.slow,on.2,l.code⟩ l m true r)) rfl (by first | (simp only [AL,AJ,Nat.reduceAdd,Int.reduceAdd,Int.reduceSub,Int.reduceMul,Int.reduceToNat];done) | (simp only [AL,AJ,Nat.reduceAdd,Int.reduceAdd,Int.reduceSub,Int.reduceMul,Int.reduceToNat];rfl) | rfl) (by first | (simp only [AL,AJ,Nat.reduceAdd,Int.reduceAdd,Int.reduceSub,Int.reduceMul,Int.reduceToNat];done) | (simp only [AL,AJ,Nat.reduceAdd,Int.reduceAdd,Int.reduceSub,Int.reduceMul,Int.reduceToNat];rfl) | rfl) (fun r => (by first | (simp only [AL,AJ,Nat.reduceAdd,Int.reduceAdd,Int.reduceSub,Int.reduceMul,Int.reduceToNat];done) | (simp only [AL,AJ,Nat.reduceAdd,Int.reduceAdd,Int.reduceSub,Int.reduceMul,Int.reduceToNat];rfl) | rfl)) ?_ ?_
 ·intro r hr
  have hk:=And.intro Vi (And.intro Yj (And.intro (RL id base list pred f) (hr.ok (k:=8) rfl)))
  have hY1 : l.hops + 1 > 40 → YT Tryz.prog 8 [.d (.i .i64 m.place),.d (.b m.done)] (Ny id base list pred f l l m false r) fun x K => x = .d (.b false) ∧ K = Ny id base list pred f (GQ l) l m false (r.left (.goto 0)):=by
   intro hh
   rw [hhi hh,decide_eq_false (by omega)] at c4
   rw [hhi hh]
   refine Aj hr rfl rfl rfl ?_
   unfold Ny JP mC
   have sc : No 3:=trivial;refine wk CI [] A1 A1 ?_;clear sc;with_reducible repeat' first|constructor|intro hc;try simp only[A3] at hc
   refine ⟨rfl,Bl (by first | (simp only [AL,AJ,Nat.reduceAdd,Int.reduceAdd,Int.reduceSub,Int.reduceMul,Int.reduceToNat];done) | (simp only [AL,AJ,Nat.reduceAdd,Int.reduceAdd,Int.reduceSub,Int.reduceMul,Int.reduceToNat];rfl) | rfl) ?_⟩
   have sc : No 3:=trivial;refine wk CI [] A1 (AD @c4) ?_;clear sc;with_reducible repeat' first|constructor|intro hc;try simp only[A3] at hc
   exact ⟨_,A2.refl _,Nat.le_refl _,rfl,rfl,rfl⟩
  have hY2 : ¬ l.hops + 1 > 40 → YT Tryz.prog 8 [.d (.i .i64 m.place),.d (.b m.done)] (Ny id base list pred f l l m false r) fun x K => x = .d (.b true) ∧ K = Ny id base list pred f ⟨l.key,on.1,l.hops + 1,l.slow,on.2,l.code⟩ l m true r:=by
   intro hh
   rw [hlo hh,decide_eq_true (by omega)] at c4
   refine Aj hr rfl rfl rfl ?_
   unfold Ny JP mC
   unfold JP at c7 c8
   by_cases p1 : m.place = id
   ·have g1:=AA p1
    cases hd : m.done with
    | false =>
     have ho : on = hp:=by rw [hOn,if_pos ⟨p1,hd⟩]
     rw [ho]
     obtain ⟨q1,q2⟩:=hp
     clear hTo hOn hT hhi hlo hR c9 c5 hY1
     obtain ⟨m1,m2,m3,m4,m5,m6,m7,m8,m9,m10,m11,m12⟩:=m
     dsimp only at hd g1 ⊢
     subst hd
     have sc : No 3:=trivial;refine wk CI [] A1 A1 ?_;clear sc;with_reducible repeat' first|constructor|intro hc;try simp only[A3] at hc
     refine ⟨rfl,Bl (by first | (simp only [AL,AJ,Nat.reduceAdd,Int.reduceAdd,Int.reduceSub,Int.reduceMul,Int.reduceToNat];done) | (simp only [AL,AJ,Nat.reduceAdd,Int.reduceAdd,Int.reduceSub,Int.reduceMul,Int.reduceToNat];rfl) | rfl) ?_⟩
     have d1:=Ds.mk [] (c7);have d2:=Ds.mk [9,10] (c8);have sc : No 3:=trivial;refine wk CI [] (AD g1) (AD @c4) ?_;clear sc d2 d1;with_reducible repeat' first|constructor|intro hc;try simp only[A3] at hc
     exact ⟨⟨[],[.c (vC id base list pred f),.c [.d (.i .i64 l.key),.d (.i .i64 q1),.d (.i .i64 (l.hops + 1)),.d (.b l.slow),.d (.b q2),.d (.i .i64 l.code)],.c (mC ⟨m1,m2,m3,m4,m5,m6,false,m8,m9,m10,m11,m12⟩),.c (JP GK),.c [.d (.b true)],.c (vC id base list pred f),.c (JP l),.c (mC ⟨m1,m2,m3,m4,m5,m6,false,m8,m9,m10,m11,m12⟩),.lp r.busy],_⟩,(A2.ck rfl),Nat.le_refl _,rfl,rfl,rfl⟩
    | true =>
     have ho : on = (m.place,true):=by rw [hOn,if_neg (fun h => by rw [hd] at h;cases h.2),hd]
     rw [ho]
     have sc : No 3:=trivial;refine wk CI [] A1 A1 ?_;clear sc;with_reducible repeat' first|constructor|intro hc;try simp only[A3] at hc
     refine ⟨rfl,Bl (by first | (simp only [AL,AJ,Nat.reduceAdd,Int.reduceAdd,Int.reduceSub,Int.reduceMul,Int.reduceToNat];done) | (simp only [AL,AJ,Nat.reduceAdd,Int.reduceAdd,Int.reduceSub,Int.reduceMul,Int.reduceToNat];rfl) | rfl) ?_⟩
     have sc : No 3:=trivial;refine wk CI [] (Ao g1 hd) (AD @c4) ?_;clear sc;with_reducible repeat' first|constructor|intro hc;try simp only[A3] at hc
     exact ⟨_,A2.refl _,Nat.le_refl _,rfl,rfl,rfl⟩
   ·have g1:=eq_false' p1
    have ho : on = (m.place,m.done):=by rw [hOn,if_neg (fun h => p1 h.1)]
    rw [ho]
    have sc : No 3:=trivial;refine wk CI [] A1 A1 ?_;clear sc;with_reducible repeat' first|constructor|intro hc;try simp only[A3] at hc
    refine ⟨rfl,Bl (by first | (simp only [AL,AJ,Nat.reduceAdd,Int.reduceAdd,Int.reduceSub,Int.reduceMul,Int.reduceToNat];done) | (simp only [AL,AJ,Nat.reduceAdd,Int.reduceAdd,Int.reduceSub,Int.reduceMul,Int.reduceToNat];rfl) | rfl) ?_⟩
    have sc : No 3:=trivial;refine wk CI [] (AD g1) (AD @c4) ?_;clear sc;with_reducible repeat' first|constructor|intro hc;try simp only[A3] at hc
    exact ⟨_,A2.refl _,Nat.le_refl _,rfl,rfl,rfl⟩
  refine Ap AB Tryz.func222 rfl rfl (Nat.le_of_ble_eq_true rfl) ?_
  by_cases k1 : m.kind = 10
  ·have f1:=AO k1
   by_cases k2 : m.src = l.at_
   ·have f2:=AO k2
    by_cases k3 : m.dst = id
    ·have f3:=AO k3
     cases mr with
     | false =>
      unfold Ny JP mC at *
      refine wk H6 [] (Bo f1 f2 f3) (AD @c9) ?_;with_reducible repeat' first|constructor|intro hc;try simp only[A3] at hc
      exact ⟨_,A2.refl _,Nat.le_refl _,_,_,rfl,rfl,.inl ⟨by rw [hTo];simp,rfl⟩⟩
     | true =>
      have hT1 : T1 = true:=by rw [hTo];simp [k1,k2,k3]
      by_cases hh : l.hops + 1 > 40
      ·have hY:=hY1 hh
       unfold Ny JP mC at *
       have q1:=@hY;refine wk H6 [] (Bo f1 f2 f3) (AD @c9) ?_;clear q1;with_reducible repeat' first|constructor|intro hc;try simp only[A3] at hc
       exact ⟨_,A2.refl _,Nat.le_refl _,_,_,rfl,rfl,.inr (.inl ⟨hT1,hh,rfl⟩)⟩
      ·have hY:=hY2 hh
       unfold Ny JP mC at *
       have q1:=@hY;refine wk H6 [] (Bo f1 f2 f3) (AD @c9) ?_;clear q1;with_reducible repeat' first|constructor|intro hc;try simp only[A3] at hc
       exact ⟨_,A2.refl _,Nat.le_refl _,_,_,rfl,rfl,.inr (.inr ⟨hT1,hh,rfl⟩)⟩
    ·have f3:=BJ k3
     unfold Ny JP mC at *
     refine wk H6 [] (Bo f1 f2 f3) A1 ?_;with_reducible repeat' first|constructor|intro hc;try simp only[A3] at hc
     exact ⟨_,A2.refl _,Nat.le_refl _,_,_,rfl,rfl,.inl ⟨by rw [hTo];simp [k3],rfl⟩⟩
   ·have f2:=BJ k2
    unfold Ny JP mC at *
    refine wk H6 [] (Ao f1 f2) A1 ?_;with_reducible repeat' first|constructor|intro hc;try simp only[A3] at hc
    exact ⟨_,A2.refl _,Nat.le_refl _,_,_,rfl,rfl,.inl ⟨by rw [hTo];simp [k2],rfl⟩⟩
  ·have f1:=BJ k1
   unfold Ny JP mC at *
   refine wk H6 [] (AD f1) A1 ?_;with_reducible repeat' first|constructor|intro hc;try simp only[A3] at hc
   exact ⟨_,A2.refl _,Nat.le_refl _,_,_,rfl,rfl,.inl ⟨by rw [hTo];simp [k1],rfl⟩⟩
 ·rintro r hr x H' (⟨h,rfl⟩ | ⟨h,hh,rfl⟩ | ⟨h,hh,rfl⟩)
  ·refine .inl ⟨rfl,?_⟩
   rw [h,if_neg (by decide)] at hT
   rw [hT]
   unfold Ny JP
   have sc : No 3:=trivial;refine wk CI [] A1 A1 ?_;clear sc;with_reducible repeat' first|constructor|intro hc;try simp only[A3] at hc
   refine ⟨_,_,rfl,rfl,?_⟩;simp [AE,A6,A5,A4]
  ·refine .inr ⟨.goto 0,rfl,?_⟩
   rw [h,if_pos rfl,if_pos hh] at hT
   rw [hT,hhi hh]
   unfold Ny JP
   have sc : No 3:=trivial;refine wk CI [] A1 A1 ?_;clear sc;with_reducible repeat' first|constructor|intro hc;try simp only[A3] at hc
   refine ⟨_,_,rfl,rfl,?_⟩;simp [AE,A6,A5,A4]
  ·refine .inl ⟨rfl,?_⟩
   rw [h,if_pos rfl,if_neg hh] at hT
   rw [hT]
   unfold Ny JP
   have sc : No 3:=trivial;refine wk CI [] A1 A1 ?_;clear sc;with_reducible repeat' first|constructor|intro hc;try simp only[A3] at hc
   refine ⟨_,_,rfl,rfl,?_⟩;simp [AE,A6,A5,A4]
abbrev I7 : List Nat:=[0,1,2,3,4,6,7]
abbrev DT : List Nat:=[0,1,2,3,4,5,6,7,9,10]
def B3 (a : A8 × Int) : List D:=[.i .u8 a.1.kind,.i .i64 a.1.call,.i .i64 a.1.src,.i .i64 a.1.dst,.i .i64 a.1.key,.b a.1.slow,.b a.1.done,.i .i64 a.1.place,.i .i64 a.1.pred,.is a.1.list,.s a.1.item.key,.i .i64 a.1.item.value,.i .i64 a.1.item.version,.b a.1.item.gone,.i .i64 a.1.code,.i .u8 a.2]
abbrev A9 (l : List (A8 × Int)) : D:=.sl 16 (l.map B3)
theorem PI {phase of_ : Int} (h0 : 0 ≤ phase) (h : Bp phase of_ = true) : phase = 0 ∨ phase = 1 ∨ phase = 2 ∨ phase = 3:=by
 unfold Bp at h
 split at h
 ·exact .inl (by assumption)
 ·simp only [Bool.and_eq_true,decide_eq_true_eq] at h
  have:=h.1
  omega
theorem Ox (phase of_ : Int) : B4 Tryz.prog 153 [.d (.agg [.i .u8 phase,.i .i64 of_])] [] (.fn (.func 199) [] [.ptr 0 0 2]) [.c [.d (.i .u8 phase),.d (.i .i64 of_)]]:=by
 refine A7 AB Tryz.func153 rfl rfl (Nat.le_of_ble_eq_true rfl) ?_
 refine wk [0,1,2] [] A1 A1 ?_;with_reducible repeat' first|constructor|intro hc;try simp only[A3] at hc
 exact ⟨_,(A2.ck rfl),Nat.zero_le _,_,_,rfl,rfl,rfl,rfl⟩
theorem Yf {P : Program} {id : Nat} {xs : List AV} {ds : List D} {H : List AC} {R : AV → List AC → Prop} (hx : Jl xs ds) (h : YT P id (ds.map .d) H R) : YT P id xs H R :=
 fun G w l N vs h1 h2 h3 h4 => h G w l N vs h1 h2 h3 (HT.2 (N3 hx h4))
abbrev UX (kd of_ wy : Int) : AV:=.ag [.d (.i .u8 kd),.d (.i .i64 0),.d (.i .i64 0),.d (.i .i64 of_),.d (.i .i64 0),.d (.b false),.d (.b false),.d (.i .i64 0),.d (.i .i64 0),.e0,.d (.s []),.d (.i .i64 0),.d (.i .i64 0),.d (.b false),.d (.i .i64 0),.d (.i .u8 wy)]
abbrev Ob (kd of_ wy : Int) : A8 × Int:=(⟨kd,0,0,of_,0,false,false,0,0,[],AP,0⟩,wy)
theorem Rk (kd of_ wy : Int) : Jl [UX kd of_ wy] [.agg (B3 (Ob kd of_ wy))]:=by
 repeat' (first | rfl | trivial | refine ⟨rfl,rfl,by simp [A4]⟩ | refine ⟨_,_,rfl,?_,?_⟩ | refine ⟨_,rfl,?_⟩)
theorem WE {phase : Int} (of_ : Int) (h : phase = 1 ∨ phase = 2 ∨ phase = 3) : ∃ kd wy : Int,Fc phase of_ = [Ob kd of_ wy] ∧ (1 ≤ kd ∧ kd ≤ 3) ∧ kd + 6 = (if phase = 3 then 9 else 7) ∧ ((phase = 1 ∧ kd = 1 ∧ wy = 1) ∨ (phase = 2 ∧ kd = 1 ∧ wy = 2) ∨ (phase = 3 ∧ kd = 3 ∧ wy = 3)):=by
 rcases h with rfl | rfl | rfl
 ·exact ⟨1,1,rfl,by omega,rfl,.inl ⟨rfl,rfl,rfl⟩⟩
 ·exact ⟨1,2,rfl,by omega,rfl,.inr (.inl ⟨rfl,rfl,rfl⟩)⟩
 ·exact ⟨3,3,rfl,by omega,rfl,.inr (.inr ⟨rfl,rfl,rfl⟩)⟩
theorem NW (phase of_ : Int) (h0 : 0 ≤ phase) (hs : Bp phase of_ = true) : Go.Gar.Fn Tryz.prog 104 [.agg [.i .u8 phase,.i .i64 of_]] (A9 (Fc phase of_)):=by
 have c1:=Ox phase of_
 have hc:=PI h0 hs
 clear h0 hs
 refine A0 AB Tryz.func104 rfl rfl (Nat.le_of_ble_eq_true rfl) ?_
 have d1:=Ds.mk [] (c1);refine wk I7 [] A1 A1 ?_;clear d1;with_reducible repeat' first|constructor|intro hc;try simp only[A3] at hc
 clear c1
 rcases hc with rfl | hc
 ·refine Aq (K:=fun r _ H' => H' = [.c [.d (.i .u8 0),.d (.i .i64 of_)],.c [.e0],.c [.d (.i .u8 0),.d (.i .i64 of_)],.lp r]) rfl (by first | (simp only [AL,AJ,Nat.reduceAdd,Int.reduceAdd,Int.reduceSub,Int.reduceMul,Int.reduceToNat];done) | (simp only [AL,AJ,Nat.reduceAdd,Int.reduceAdd,Int.reduceSub,Int.reduceMul,Int.reduceToNat];rfl) | rfl) (by first | (simp only [AL,AJ,Nat.reduceAdd,Int.reduceAdd,Int.reduceSub,Int.reduceMul,Int.reduceToNat];done) | (simp only [AL,AJ,Nat.reduceAdd,Int.reduceAdd,Int.reduceSub,Int.reduceMul,Int.reduceToNat];rfl) | rfl) (fun r => (by first | (simp only [AL,AJ,Nat.reduceAdd,Int.reduceAdd,Int.reduceSub,Int.reduceMul,Int.reduceToNat];done) | (simp only [AL,AJ,Nat.reduceAdd,Int.reduceAdd,Int.reduceSub,Int.reduceMul,Int.reduceToNat];rfl) | rfl)) ?_ ?_
  ·intro r hr
   have hk:=hr.ok (k:=3) rfl
   refine Ap AB Tryz.func199 rfl rfl (Nat.le_of_ble_eq_true rfl) ?_
   refine wk [0,1,3,6] [] A1 A1 ?_;with_reducible repeat' first|constructor|intro hc;try simp only[A3] at hc
   exact ⟨_,A2.refl _,Nat.le_refl _,_,_,rfl,rfl,rfl⟩
  ·rintro r hr x H' rfl
   refine .inl ⟨rfl,?_⟩
   refine wk I7 [] A1 A1 ?_;with_reducible repeat' first|constructor|intro hc;try simp only[A3] at hc
   refine ⟨_,_,rfl,rfl,?_⟩;simp [AE,A6,A5,A4,Fc]
 ·obtain ⟨kd,wy,hA,-,-,hcase⟩:=WE of_ hc
  rw [hA]
  clear hA hc
  refine Aq (K:=fun r _ H' => H' = [.c [.d (.i .u8 phase),.d (.i .i64 of_)],.c [.d (A9 [Ob kd of_ wy])],.c [.d (.i .u8 phase),.d (.i .i64 of_)],.lp r]) rfl (by first | (simp only [AL,AJ,Nat.reduceAdd,Int.reduceAdd,Int.reduceSub,Int.reduceMul,Int.reduceToNat];done) | (simp only [AL,AJ,Nat.reduceAdd,Int.reduceAdd,Int.reduceSub,Int.reduceMul,Int.reduceToNat];rfl) | rfl) (by first | (simp only [AL,AJ,Nat.reduceAdd,Int.reduceAdd,Int.reduceSub,Int.reduceMul,Int.reduceToNat];done) | (simp only [AL,AJ,Nat.reduceAdd,Int.reduceAdd,Int.reduceSub,Int.reduceMul,Int.reduceToNat];rfl) | rfl) (fun r => (by first | (simp only [AL,AJ,Nat.reduceAdd,Int.reduceAdd,Int.reduceSub,Int.reduceMul,Int.reduceToNat];done) | (simp only [AL,AJ,Nat.reduceAdd,Int.reduceAdd,Int.reduceSub,Int.reduceMul,Int.reduceToNat];rfl) | rfl)) ?_ ?_
  ·intro r hr
   have hk:=hr.ok (k:=3) rfl
   have hY : YT Tryz.prog 3 [UX kd of_ wy] [.c [.d (.i .u8 phase),.d (.i .i64 of_)],.c [.e0],.c [.d (.i .u8 phase),.d (.i .i64 of_)],.lp r,.c [.d (.i .u8 kd),.d (.i .u8 wy)]] fun x K => x = .d (.b true) ∧ K = [.c [.d (.i .u8 phase),.d (.i .i64 of_)],.c [.d (A9 [Ob kd of_ wy])],.c [.d (.i .u8 phase),.d (.i .i64 of_)],.lp r,.c [.d (.i .u8 kd),.d (.i .u8 wy)]]:=by
    refine Yf (Rk kd of_ wy) (Aj hr rfl rfl rfl ?_)
    unfold B3
    refine wk I7 [] A1 A1 ?_;with_reducible repeat' first|constructor|intro hc;try simp only[A3] at hc
    refine ⟨rfl,Bl (by first | (simp only [AL,AJ,Nat.reduceAdd,Int.reduceAdd,Int.reduceSub,Int.reduceMul,Int.reduceToNat];done) | (simp only [AL,AJ,Nat.reduceAdd,Int.reduceAdd,Int.reduceSub,Int.reduceMul,Int.reduceToNat];rfl) | rfl) ?_⟩
    refine wk I7 [] A1 A1 ?_;with_reducible repeat' first|constructor|intro hc;try simp only[A3] at hc
    exact ⟨⟨[],[.c [.d (.i .u8 phase),.d (.i .i64 of_)],.c [.d (A9 [Ob kd of_ wy])],.c [.d (.i .u8 phase),.d (.i .i64 of_)],.lp r.busy,.c [.d (.i .u8 kd),.d (.i .u8 wy)]],_⟩,(A2.ck rfl),Nat.le_refl _,rfl,rfl,rfl⟩
   refine Ap AB Tryz.func199 rfl rfl (Nat.le_of_ble_eq_true rfl) ?_
   rcases hcase with ⟨rfl,rfl,rfl⟩ | ⟨rfl,rfl,rfl⟩ | ⟨rfl,rfl,rfl⟩
   all_goals
    have q1:=@hY;refine wk [0,1,3,6] [] A1 A1 ?_;clear q1;with_reducible repeat' first|constructor|intro hc;try simp only[A3] at hc
   ·exact ⟨⟨[],[.c [.d (.i .u8 1),.d (.i .i64 of_)],.c [.d (A9 [Ob 1 of_ 1])],.c [.d (.i .u8 1),.d (.i .i64 of_)],.lp r],_⟩,(A2.ck rfl),Nat.le_refl _,_,_,rfl,rfl,rfl⟩
   ·exact ⟨⟨[],[.c [.d (.i .u8 2),.d (.i .i64 of_)],.c [.d (A9 [Ob 1 of_ 2])],.c [.d (.i .u8 2),.d (.i .i64 of_)],.lp r],_⟩,(A2.ck rfl),Nat.le_refl _,_,_,rfl,rfl,rfl⟩
   ·exact ⟨⟨[],[.c [.d (.i .u8 3),.d (.i .i64 of_)],.c [.d (A9 [Ob 3 of_ 3])],.c [.d (.i .u8 3),.d (.i .i64 of_)],.lp r],_⟩,(A2.ck rfl),Nat.le_refl _,_,_,rfl,rfl,rfl⟩
  ·rintro r hr x H' rfl
   refine .inl ⟨rfl,?_⟩
   refine wk I7 [] A1 A1 ?_;with_reducible repeat' first|constructor|intro hc;try simp only[A3] at hc
   refine ⟨_,_,rfl,rfl,?_⟩;simp [AE,A6,A5,A4]
theorem SI (v : View) (phase of_ : Int) (m : A8) (h0 : 0 ≤ phase) (hs : Bp phase of_ = true) (hm : Ab m) : Go.Gar.Fn Tryz.prog 99 [v.d,.agg [.i .u8 phase,.i .i64 of_],m.d] (.b (P9 v phase of_ m)):=by
 have c1:=Ox phase of_
 have c2:=Wi.Cc m (lm hm)
 have hc:=PI h0 hs
 have hT : P9 v phase of_ m = (decide (phase ≠ 0) && (decide (m.kind = (if phase = 3 then 9 else 7)) && (decide (m.src = of_) && (decide (m.dst = v.id) && m.right)))):=rfl
 clear h0 hs
 generalize P9 v phase of_ m = B at *
 generalize m.right = mr at *
 obtain ⟨id,base,list,pred,f⟩:=v
 dsimp only at hT
 refine A0 AB Tryz.func99 rfl rfl (Nat.le_of_ble_eq_true rfl) ?_
 unfold Wi.A8.d Wi.A8.cells at *
 have d1:=Ds.mk [] (c1);refine wk DT [] A1 A1 ?_;clear d1;with_reducible repeat' first|constructor|intro hc;try simp only[A3] at hc
 clear c1
 rcases hc with rfl | hc
 ·refine Aq (K:=fun r _ H' => H' = [.c (vC id base list pred f),.c [.d (.i .u8 0),.d (.i .i64 of_)],.c (mC m),.c [.d (.b false)],.c [.d (.i .u8 0),.d (.i .i64 of_)],.lp r]) rfl (by first | (simp only [AL,AJ,Nat.reduceAdd,Int.reduceAdd,Int.reduceSub,Int.reduceMul,Int.reduceToNat];done) | (simp only [AL,AJ,Nat.reduceAdd,Int.reduceAdd,Int.reduceSub,Int.reduceMul,Int.reduceToNat];rfl) | rfl) (by first | (simp only [AL,AJ,Nat.reduceAdd,Int.reduceAdd,Int.reduceSub,Int.reduceMul,Int.reduceToNat];done) | (simp only [AL,AJ,Nat.reduceAdd,Int.reduceAdd,Int.reduceSub,Int.reduceMul,Int.reduceToNat];rfl) | rfl) (fun r => (by first | (simp only [AL,AJ,Nat.reduceAdd,Int.reduceAdd,Int.reduceSub,Int.reduceMul,Int.reduceToNat];done) | (simp only [AL,AJ,Nat.reduceAdd,Int.reduceAdd,Int.reduceSub,Int.reduceMul,Int.reduceToNat];rfl) | rfl)) ?_ ?_
  ·intro r hr
   have hk:=And.intro (RL id base list pred f) (hr.ok (k:=5) rfl)
   refine Ap AB Tryz.func199 rfl rfl (Nat.le_of_ble_eq_true rfl) ?_
   refine wk [0,1,3,6] [] A1 A1 ?_;with_reducible repeat' first|constructor|intro hc;try simp only[A3] at hc
   exact ⟨_,A2.refl _,Nat.le_refl _,_,_,rfl,rfl,rfl⟩
  ·rintro r hr x H' rfl
   refine .inl ⟨rfl,?_⟩
   rw [hT]
   unfold vC mC
   refine wk DT [] A1 A1 ?_;with_reducible repeat' first|constructor|intro hc;try simp only[A3] at hc
   refine ⟨_,_,rfl,rfl,?_⟩;simp [AE,A6,A5,A4]
 ·obtain ⟨kd,wy,-,hkd,hkw,hcase⟩:=WE of_ hc
  rw [← hkw,decide_eq_true (show phase ≠ 0 by omega),Bool.true_and] at hT
  clear hc hkw
  refine Aq (K:=fun r _ H' => H' = [.c (vC id base list pred f),.c [.d (.i .u8 phase),.d (.i .i64 of_)],.c (mC m),.c [.d (.b B)],.c [.d (.i .u8 phase),.d (.i .i64 of_)],.lp (r.left .ret)]) rfl (by first | (simp only [AL,AJ,Nat.reduceAdd,Int.reduceAdd,Int.reduceSub,Int.reduceMul,Int.reduceToNat];done) | (simp only [AL,AJ,Nat.reduceAdd,Int.reduceAdd,Int.reduceSub,Int.reduceMul,Int.reduceToNat];rfl) | rfl) (by first | (simp only [AL,AJ,Nat.reduceAdd,Int.reduceAdd,Int.reduceSub,Int.reduceMul,Int.reduceToNat];done) | (simp only [AL,AJ,Nat.reduceAdd,Int.reduceAdd,Int.reduceSub,Int.reduceMul,Int.reduceToNat];rfl) | rfl) (fun r => (by first | (simp only [AL,AJ,Nat.reduceAdd,Int.reduceAdd,Int.reduceSub,Int.reduceMul,Int.reduceToNat];done) | (simp only [AL,AJ,Nat.reduceAdd,Int.reduceAdd,Int.reduceSub,Int.reduceMul,Int.reduceToNat];rfl) | rfl)) ?_ ?_
  ·intro r hr
   have hk:=And.intro Vi (And.intro Yj (And.intro (RL id base list pred f) (hr.ok (k:=5) rfl)))
   have hY : YT Tryz.prog 5 [UX kd of_ wy] [.c (vC id base list pred f),.c [.d (.i .u8 phase),.d (.i .i64 of_)],.c (mC m),.c [.d (.b false)],.c [.d (.i .u8 phase),.d (.i .i64 of_)],.lp r,.c [.d (.i .u8 kd),.d (.i .u8 wy)]] fun x K => x = .d (.b false) ∧ K = [.c (vC id base list pred f),.c [.d (.i .u8 phase),.d (.i .i64 of_)],.c (mC m),.c [.d (.b B)],.c [.d (.i .u8 phase),.d (.i .i64 of_)],.lp (r.left .ret),.c [.d (.i .u8 kd),.d (.i .u8 wy)]]:=by
    refine Yf (Rk kd of_ wy) (Aj hr rfl rfl rfl ?_)
    unfold B3 vC mC
    by_cases k1 : m.kind = kd + 6
    ·have f1:=AA k1
     rw [decide_eq_true k1,Bool.true_and] at hT
     by_cases k2 : m.src = of_
     ·have f2:=AA k2
      rw [decide_eq_true k2,Bool.true_and] at hT
      by_cases k3 : m.dst = id
      ·have f3:=AA k3
       rw [decide_eq_true k3,Bool.true_and] at hT
       rw [hT]
       refine wk DT [] A1 A1 ?_;with_reducible repeat' first|constructor|intro hc;try simp only[A3] at hc
       refine ⟨rfl,Bl (by first | (simp only [AL,AJ,Nat.reduceAdd,Int.reduceAdd,Int.reduceSub,Int.reduceMul,Int.reduceToNat];done) | (simp only [AL,AJ,Nat.reduceAdd,Int.reduceAdd,Int.reduceSub,Int.reduceMul,Int.reduceToNat];rfl) | rfl) ?_⟩
       refine wk DT [] (Bo f1 f2 f3) (AD @c2) ?_;with_reducible repeat' first|constructor|intro hc;try simp only[A3] at hc
       exact ⟨⟨[],[.c (vC id base list pred f),.c [.d (.i .u8 phase),.d (.i .i64 of_)],.c (mC m),.c [.d (.b mr)],.c [.d (.i .u8 phase),.d (.i .i64 of_)],.lp r.busy,.c [.d (.i .u8 kd),.d (.i .u8 wy)]],_⟩,(A2.ck rfl),Nat.le_refl _,rfl,rfl,rfl⟩
      ·have f3:=eq_false' k3
       rw [decide_eq_false k3,Bool.false_and] at hT
       rw [hT]
       refine wk DT [] A1 A1 ?_;with_reducible repeat' first|constructor|intro hc;try simp only[A3] at hc
       refine ⟨rfl,Bl (by first | (simp only [AL,AJ,Nat.reduceAdd,Int.reduceAdd,Int.reduceSub,Int.reduceMul,Int.reduceToNat];done) | (simp only [AL,AJ,Nat.reduceAdd,Int.reduceAdd,Int.reduceSub,Int.reduceMul,Int.reduceToNat];rfl) | rfl) ?_⟩
       refine wk DT [] (Bo f1 f2 f3) A1 ?_;with_reducible repeat' first|constructor|intro hc;try simp only[A3] at hc
       exact ⟨⟨[],[.c (vC id base list pred f),.c [.d (.i .u8 phase),.d (.i .i64 of_)],.c (mC m),.c [.d (.b false)],.c [.d (.i .u8 phase),.d (.i .i64 of_)],.lp r.busy,.c [.d (.i .u8 kd),.d (.i .u8 wy)]],_⟩,(A2.ck rfl),Nat.le_refl _,rfl,rfl,rfl⟩
     ·have f2:=eq_false' k2
      rw [decide_eq_false k2,Bool.false_and] at hT
      rw [hT]
      refine wk DT [] A1 A1 ?_;with_reducible repeat' first|constructor|intro hc;try simp only[A3] at hc
      refine ⟨rfl,Bl (by first | (simp only [AL,AJ,Nat.reduceAdd,Int.reduceAdd,Int.reduceSub,Int.reduceMul,Int.reduceToNat];done) | (simp only [AL,AJ,Nat.reduceAdd,Int.reduceAdd,Int.reduceSub,Int.reduceMul,Int.reduceToNat];rfl) | rfl) ?_⟩
      refine wk DT [] (Ao f1 f2) A1 ?_;with_reducible repeat' first|constructor|intro hc;try simp only[A3] at hc
      exact ⟨⟨[],[.c (vC id base list pred f),.c [.d (.i .u8 phase),.d (.i .i64 of_)],.c (mC m),.c [.d (.b false)],.c [.d (.i .u8 phase),.d (.i .i64 of_)],.lp r.busy,.c [.d (.i .u8 kd),.d (.i .u8 wy)]],_⟩,(A2.ck rfl),Nat.le_refl _,rfl,rfl,rfl⟩
    ·have f1:=eq_false' k1
     rw [decide_eq_false k1,Bool.false_and] at hT
     rw [hT]
     refine wk DT [] A1 A1 ?_;with_reducible repeat' first|constructor|intro hc;try simp only[A3] at hc
     refine ⟨rfl,Bl (by first | (simp only [AL,AJ,Nat.reduceAdd,Int.reduceAdd,Int.reduceSub,Int.reduceMul,Int.reduceToNat];done) | (simp only [AL,AJ,Nat.reduceAdd,Int.reduceAdd,Int.reduceSub,Int.reduceMul,Int.reduceToNat];rfl) | rfl) ?_⟩
     refine wk DT [] (AD f1) A1 ?_;with_reducible repeat' first|constructor|intro hc;try simp only[A3] at hc
     exact ⟨⟨[],[.c (vC id base list pred f),.c [.d (.i .u8 phase),.d (.i .i64 of_)],.c (mC m),.c [.d (.b false)],.c [.d (.i .u8 phase),.d (.i .i64 of_)],.lp r.busy,.c [.d (.i .u8 kd),.d (.i .u8 wy)]],_⟩,(A2.ck rfl),Nat.le_refl _,rfl,rfl,rfl⟩
   clear c2 hT hkd
   refine Ap AB Tryz.func199 rfl rfl (Nat.le_of_ble_eq_true rfl) ?_
   rcases hcase with ⟨rfl,rfl,rfl⟩ | ⟨rfl,rfl,rfl⟩ | ⟨rfl,rfl,rfl⟩
   all_goals
    have q1:=@hY;refine wk [0,1,3,6] [] A1 A1 ?_;clear q1;with_reducible repeat' first|constructor|intro hc;try simp only[A3] at hc
   ·exact ⟨⟨[],[.c (vC id base list pred f),.c [.d (.i .u8 1),.d (.i .i64 of_)],.c (mC m),.c [.d (.b B)],.c [.d (.i .u8 1),.d (.i .i64 of_)],.lp (r.left .ret)],_⟩,(A2.ck rfl),Nat.le_refl _,_,_,rfl,rfl,rfl⟩
   ·exact ⟨⟨[],[.c (vC id base list pred f),.c [.d (.i .u8 2),.d (.i .i64 of_)],.c (mC m),.c [.d (.b B)],.c [.d (.i .u8 2),.d (.i .i64 of_)],.lp (r.left .ret)],_⟩,(A2.ck rfl),Nat.le_refl _,_,_,rfl,rfl,rfl⟩
   ·exact ⟨⟨[],[.c (vC id base list pred f),.c [.d (.i .u8 3),.d (.i .i64 of_)],.c (mC m),.c [.d (.b B)],.c [.d (.i .u8 3),.d (.i .i64 of_)],.lp (r.left .ret)],_⟩,(A2.ck rfl),Nat.le_refl _,_,_,rfl,rfl,rfl⟩
  ·rintro r hr x H' rfl
   refine .inr ⟨.ret,rfl,?_⟩
   unfold vC mC
   refine wk DT [] A1 A1 ?_;with_reducible repeat' first|constructor|intro hc;try simp only[A3] at hc
   refine ⟨_,_,rfl,rfl,?_⟩;simp [AE,A6,A5,A4]
end Nd
end Go.Proofs.YtnahkfkljohjaaaGreatDoor
