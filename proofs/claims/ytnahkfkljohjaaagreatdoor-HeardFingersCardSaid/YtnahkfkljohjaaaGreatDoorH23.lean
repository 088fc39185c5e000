/- Part 23 of the texts of this proof, put together by a program and made short.
Conditions: none; what each theorem asks stands in its own hypotheses. -/
import Derived.Test.YtnahkfkljohjaaaGreatDoorH21
import Derived.Sort.Walk0
import Derived.KernelRfl
import Derived.RangeFuncIn
import Derived.OpenShut
import Derived.ProofKit
import Derived.CallsIn
import Derived.RangeFuncLeaves
import Derived.OrdersIn
import Derived.TacticsIn
import Derived.ChangeKeysEq
import Derived.Laws.AppendOwn
import Derived.Laws.OwnMore
import Derived.Laws.MakeOwn
import Derived.Laws.Rows
import Derived.Laws.Cells
import Derived.Laws.Tables
import Derived.Laws.CopyRow
import Derived.Laws.Strings
import Derived.Laws.IdiomStrings
import Derived.Laws.BytesArg
import Derived.Sort.Grow
import Derived.Laws.Cover3
import Derived.RecoverIn
import Derived.Test.YtnahkfkljohjaaaGreatDoorProg
set_option linter.unusedSimpArgs false
set_option linter.unusedVariables false
set_option linter.unnecessarySimpa false
set_option maxHeartbeats 40000000
namespace Go.Proofs.YtnahkfkljohjaaaGreatDoor
namespace Nd
open Go.Gar
open Wi (A8 B0 Ak AX B8)
set_option maxRecDepth 4000
abbrev EP : List Nat:=[0,1,2,3,6,7,8,9,12,19,21,28,29,33]
abbrev Gs : List Nat:=[0,1,4,6,11,13,14,15,16,22,25,26,27,36]
theorem XB (a x b : Int) : Go.Gar.Fn Tryz.prog 214 [.i .i64 a,.i .i64 x,.i .i64 b] (.b (LO a x b)):=by
 have c1:=Nh a x b
 have c2:=Cw x
 have c3:=Cw b
 refine A0 AB Tryz.func214 rfl rfl (Nat.le_of_ble_eq_true rfl) ?_
 cases h : D6 a x b with
 | true =>
  rw [h] at c1
  have hT : LO a x b = true:=by unfold LO;rw [h];rfl
  refine wk [0,1,2,6] [] A1 (AD @c1) ?_;with_reducible repeat' first|constructor|intro hc;try simp only[A3] at hc
  refine ⟨_,_,rfl,rfl,?_⟩;simp [AE,A6,A5,A4,hT]
 | false =>
  rw [h] at c1
  have hT : LO a x b = (Ba x == Ba b):=by unfold LO;rw [h,DW];rfl
  refine wk [0,1,2,6] [] A1 (Bo @c1 @c2 @c3) ?_;with_reducible repeat' first|constructor|intro hc;try simp only[A3] at hc
  refine ⟨_,_,rfl,rfl,?_⟩;simp [AE,A6,A5,A4,hT]
theorem RL (id : Int) (base list : List Int) (pred : Int) (f : Nat → Int) (k : Nat) : AV.oks k (vC id base list pred f) = true:=rfl
theorem Vm (id : Int) (base list : List Int) (pred : Int) (f : Nat → Int) : B4 Tryz.prog 216 [.d (View.d ⟨id,base,list,pred,f⟩)] [] (.fn (.func 226) [] [.ptr 0 0 20]) [.c (vC id base list pred f)]:=by
 refine A7 AB Tryz.func216 rfl rfl (Nat.le_of_ble_eq_true rfl) ?_
 unfold vC
 refine wk [0,1,2] [] A1 A1 ?_;with_reducible repeat' first|constructor|intro hc;try simp only[A3] at hc
 exact ⟨_,(A2.ck rfl),Nat.zero_le _,_,_,rfl,rfl,rfl,rfl⟩
theorem YL (id k : Int) : B4 Tryz.prog 215 [.d (.i .i64 id),.d (.i .i64 k)] [] (.fn (.func 225) [] [.ptr 0 0 1,.ptr 1 0 1]) [.c [.d (.i .i64 id)],.c [.d (.i .i64 k)]]:=by
 refine A7 AB Tryz.func215 rfl rfl (Nat.le_of_ble_eq_true rfl) ?_
 refine wk [0,1,2,3,4] [] A1 A1 ?_;with_reducible repeat' first|constructor|intro hc;try simp only[A3] at hc
 exact ⟨_,(A2.ck rfl),Nat.zero_le _,_,_,rfl,rfl,rfl,rfl⟩
def Pb (id k q p : Int) : Bool:=D6 id q k && decide (AU id q > AU id p)
theorem Vb (id k q p : Int) : B4 Tryz.prog 225 [.d (.i .i64 q),.d (.i .i64 p),.ptr 0 0 1,.ptr 1 0 1] [.c [.d (.i .i64 id)],.c [.d (.i .i64 k)]] (.d (.b (Pb id k q p))) [.c [.d (.i .i64 id)],.c [.d (.i .i64 k)]]:=by
 have c1:=Nh id q k
 have c2:=FE id q
 have c3:=FE id p
 refine A7 AB Tryz.func225 rfl rfl (Nat.le_of_ble_eq_true rfl) ?_
 cases h : D6 id q k with
 | true =>
  rw [h] at c1
  have hT : Pb id k q p = decide (AU id q > AU id p):=by unfold Pb;rw [h];rfl
  rw [hT]
  refine wd [0,1,2,3,6] [] [(8,7)] A1 (Bo @c1 @c2 @c3) ?_;with_reducible repeat' first|constructor|intro hc;try simp only[A3] at hc
  exact ⟨⟨[(6,.d (.b (decide (AU id q > AU id p))))],_,_⟩,(A2.ck rfl),Nat.le_refl _,_,_,rfl,rfl,rfl,rfl⟩
 | false =>
  rw [h] at c1
  have hT : Pb id k q p = false:=by unfold Pb;rw [h];rfl
  rw [hT]
  refine wd [0,1,2,3,6] [] [] A1 (Bo @c1 @c2 @c3) ?_;with_reducible repeat' first|constructor|intro hc;try simp only[A3] at hc
  exact ⟨⟨[(6,.d (.b false))],_,_⟩,(A2.ck rfl),Nat.le_refl _,_,_,rfl,rfl,rfl,rfl⟩
theorem Y6 {f : Nat → Int} {k : Nat} (h : k < 16) : (CL f)[k]? = some (f k):=by
 rcases Li h with rfl | rfl | rfl | rfl | rfl | rfl | rfl | rfl | rfl | rfl | rfl | rfl | rfl | rfl | rfl | rfl <;> rfl
def NA (id k p q : Int) : Int:=if q != -1 then Dn id k p q else p
theorem fold_filter {α : Type} (g : α → Int → α) (c : Int → Bool) : ∀ (l : List Int) (s : α),(l.filter c).foldl g s = l.foldl (fun s x => if c x then g s x else s) s
 | [],s => rfl
 | a :: l,s => by
  cases h : c a with
  | true => rw [List.filter_cons_of_pos h,List.foldl_cons,List.foldl_cons,fold_filter g c l,if_pos h]
  | false => rw [List.filter_cons_of_neg (by rw [h];simp),List.foldl_cons,fold_filter g c l,if_neg (by rw [h];simp)]
theorem ay (v : View) (k p : Int) : (bX v).foldl (Dn v.id k) p = (CL v.f).foldl (NA v.id k) (v.list.foldl (Dn v.id k) (Dn v.id k p (Hd v))):=by
 unfold bX
 rw [List.foldl_cons,List.foldl_append,fold_filter]
 rfl
abbrev hpH (id : Int) (base list : List Int) (pred : Int) (f : Nat → Int) (k p : Int) (r : Lp) : List AC:=[.c (vC id base list pred f),.c [.d (.i .i64 p)],.c [.d (.i .i64 id)],.c [.d (.i .i64 k)],.c [.fn (.func 225) [] [.ptr 2 0 1,.ptr 3 0 1]],.c (vC id base list pred f),.lp r]
theorem Wo (v : View) (k : Int) (slow : Bool) (hb : v.base.length ≤ 1000) (hl : v.list.length ≤ 1000) : Go.Gar.Fn Tryz.prog 192 [v.d,.i .i64 k,.b slow] (.tup [.i .i64 (CV v k slow).1,.b (CV v k slow).2]):=by
 have c1:=Am v hb hl
 have c2:=M9 v hb hl
 have c3:=XB v.id k (Hd v)
 have c4:=Vm v.id v.base v.list v.pred v.f
 have c5:=YL v.id k
 refine A0 AB Tryz.func192 rfl rfl (Nat.le_of_ble_eq_true rfl) ?_
 cases h : AF v with
 | false =>
  have hT : CV v k slow = (-1,false):=by unfold CV;rw [h];rfl
  rw [h] at c1
  rw [hT]
  obtain ⟨id,base,list,pred,f⟩:=v
  refine wk EP [] A1 (AD @c1) ?_;with_reducible repeat' first|constructor|intro hc;try simp only[A3] at hc
  refine ⟨_,_,rfl,rfl,?_⟩;simp [AE,A6,A5,A4]
 | true =>
 rw [h] at c1
 cases hu : LO v.id k (Hd v) with
 | true =>
  have hT : CV v k slow = (Hd v,true):=by unfold CV;rw [h,hu];rfl
  rw [hu] at c3
  rw [hT]
  generalize Hd v = p0 at *
  obtain ⟨id,base,list,pred,f⟩:=v
  refine wk EP [] A1 (Bo @c1 @c2 @c3) ?_;with_reducible repeat' first|constructor|intro hc;try simp only[A3] at hc
  refine ⟨_,_,rfl,rfl,?_⟩;simp [AE,A6,A5,A4]
 | false =>
 rw [hu] at c3
 cases slow with
 | true =>
  have hT : CV v k true = (Hd v,false):=by unfold CV;rw [h,hu];rfl
  rw [hT]
  generalize Hd v = p0 at *
  obtain ⟨id,base,list,pred,f⟩:=v
  refine wk EP [] A1 (Bo @c1 @c2 @c3) ?_;with_reducible repeat' first|constructor|intro hc;try simp only[A3] at hc
  refine ⟨_,_,rfl,rfl,?_⟩;simp [AE,A6,A5,A4]
 | false =>
 have hT : CV v k false = ((CL v.f).foldl (NA v.id k) (v.list.foldl (Dn v.id k) (Dn v.id k (Hd v) (Hd v))),false):=by unfold CV;rw [h,hu,ay];rfl
 rw [hT]
 generalize Hd v = p0 at *
 obtain ⟨id,base,list,pred,f⟩:=v
 clear hT h hu
 dsimp only at *
 have d1:=Ds.mk [] (c4);have d2:=Ds.mk [] (c5);refine wk EP [] A1 (Bo @c1 @c2 @c3) ?_;clear d2 d1;with_reducible repeat' first|constructor|intro hc;try simp only[A3] at hc
 refine Aq (K:=fun r _ H' => H' = hpH id base list pred f k ((CL f).foldl (NA id k) (list.foldl (Dn id k) (Dn id k p0 p0))) r) rfl (by first | (simp only [AL,AJ,Nat.reduceAdd,Int.reduceAdd,Int.reduceSub,Int.reduceMul,Int.reduceToNat];done) | (simp only [AL,AJ,Nat.reduceAdd,Int.reduceAdd,Int.reduceSub,Int.reduceMul,Int.reduceToNat];rfl) | rfl) (by first | (simp only [AL,AJ,Nat.reduceAdd,Int.reduceAdd,Int.reduceSub,Int.reduceMul,Int.reduceToNat];done) | (simp only [AL,AJ,Nat.reduceAdd,Int.reduceAdd,Int.reduceSub,Int.reduceMul,Int.reduceToNat];rfl) | rfl) (fun r => (by first | (simp only [AL,AJ,Nat.reduceAdd,Int.reduceAdd,Int.reduceSub,Int.reduceMul,Int.reduceToNat];done) | (simp only [AL,AJ,Nat.reduceAdd,Int.reduceAdd,Int.reduceSub,Int.reduceMul,Int.reduceToNat];rfl) | rfl)) ?_ ?_
 ·intro r hr
  have hk:=And.intro (RL id base list pred f) (hr.ok (k:=6) rfl)
  have hY : ∀ q p,YT Tryz.prog 6 [.d (.i .i64 q)] (hpH id base list pred f k p r) fun x K => x = .d (.b true) ∧ K = hpH id base list pred f k (Dn id k p q) r:=by
   intro q p
   have c6:=Vb id k q p
   have hS : Dn id k p q = if Pb id k q p then q else p:=rfl
   rw [hS]
   refine Aj hr rfl rfl rfl ?_
   cases hi : Pb id k q p with
   | true =>
    rw [hi] at c6
    refine wk EP [] A1 A1 ?_;with_reducible repeat' first|constructor|intro hc;try simp only[A3] at hc
    refine ⟨rfl,Bl (by first | (simp only [AL,AJ,Nat.reduceAdd,Int.reduceAdd,Int.reduceSub,Int.reduceMul,Int.reduceToNat];done) | (simp only [AL,AJ,Nat.reduceAdd,Int.reduceAdd,Int.reduceSub,Int.reduceMul,Int.reduceToNat];rfl) | rfl) ?_⟩
    have d1:=Ds.mk [2,3] (c6);refine wk EP [] A1 A1 ?_;clear d1;with_reducible repeat' first|constructor|intro hc;try simp only[A3] at hc
    exact ⟨_,A2.refl _,Nat.le_refl _,rfl,rfl,rfl⟩
   | false =>
    rw [hi] at c6
    refine wk EP [] A1 A1 ?_;with_reducible repeat' first|constructor|intro hc;try simp only[A3] at hc
    refine ⟨rfl,Bl (by first | (simp only [AL,AJ,Nat.reduceAdd,Int.reduceAdd,Int.reduceSub,Int.reduceMul,Int.reduceToNat];done) | (simp only [AL,AJ,Nat.reduceAdd,Int.reduceAdd,Int.reduceSub,Int.reduceMul,Int.reduceToNat];rfl) | rfl) ?_⟩
    have d1:=Ds.mk [2,3] (c6);refine wk EP [] A1 A1 ?_;clear d1;with_reducible repeat' first|constructor|intro hc;try simp only[A3] at hc
    exact ⟨_,A2.refl _,Nat.le_refl _,rfl,rfl,rfl⟩
  refine Ap AB Tryz.func226 rfl rfl (Nat.le_of_ble_eq_true rfl) ?_
  have q1:=@hY;refine wk Gs [] A1 (AD @c2) ?_;clear q1;with_reducible repeat' first|constructor|intro hc;try simp only[A3] at hc
  refine C6 (fun j => j ≤ list.length) (fun j : Nat => [(15,.d (.i .i64 j))]) (fun j => [(1,.c [.d (.i .i64 ((list.take j).foldl (Dn id k) (Dn id k p0 p0)))])]) (fun j => list.length - j) 0 (Nat.zero_le _) (fun _ => rfl) (fun _ => rfl) ?_ ?_
  ·exact A2.ck rfl
  intro j hj
  by_cases hjl : j < list.length
  ·obtain ⟨q,hq⟩:=AR hjl
   have gq:=Bv hq
   have hn : (list.take (j + 1)).foldl (Dn id k) (Dn id k p0 p0) = Dn id k ((list.take j).foldl (Dn id k) (Dn id k p0 p0)) q:=by rw [AT hq,List.foldl_append];rfl
   have q1:=@hY;refine wk Gs [] (AD gq) A1 ?_;clear q1;with_reducible repeat' first|constructor|intro hc;try simp only[A3] at hc
   refine ⟨j + 1,hjl,by omega,Nat.le_refl _,?_⟩
   exact A2.cut rfl (by repeat' (first | exact True.intro | refine And.intro (by (first | rfl | ((with_reducible_and_instances refine congrArg (fun z => some (AV.d (D.i _ z))) ?_);omega) | (refine congrArg (fun z => some (AV.d (D.i _ z))) (?_ : (_ : Int) = _);omega) | (refine congrArg some ?_;simp only [hn];done) | (refine congrArg some ?_;simp [hn];done))) ?_)) (by repeat' (first | exact True.intro | refine And.intro (Or.inr rfl) ?_ | refine And.intro (Or.inl ⟨rfl,rfl⟩) ?_ | refine And.intro (Or.inr (by simp only [hn])) ?_ | refine And.intro (Or.inr (by simp [hn])) ?_)) (by first | rfl | (simp (decide:=true) [Ae,AC.ok,AV.oks,AV.ok,hk];done)) rfl
  have e : j = list.length:=by omega
  subst e
  rw [List.take_length]
  generalize list.foldl (Dn id k) (Dn id k p0 p0) = p1 at *
  refine wk Gs [] A1 A1 ?_;with_reducible repeat' first|constructor|intro hc;try simp only[A3] at hc
  refine C6 (fun j => j ≤ 16) (fun j : Nat => [(26,.d (.i .i64 j))]) (fun j => [(1,.c [.d (.i .i64 (((CL f).take j).foldl (NA id k) p1))])]) (fun j => 16 - j) 0 (Nat.zero_le _) (fun _ => rfl) (fun _ => rfl) ?_ ?_
  ·exact A2.ck rfl
  intro j hj
  by_cases hjl : j < 16
  ·have hn : ((CL f).take (j + 1)).foldl (NA id k) p1 = if f j != -1 then Dn id k (((CL f).take j).foldl (NA id k) p1) (f j) else ((CL f).take j).foldl (NA id k) p1:=by rw [AT (Y6 hjl),List.foldl_append];rfl
   generalize ((CL f).take j).foldl (NA id k) p1 = p2 at *
   cases g : f j != -1 with
   | true =>
    rw [g,if_pos rfl] at hn
    rcases Li hjl with rfl | rfl | rfl | rfl | rfl | rfl | rfl | rfl | rfl | rfl | rfl | rfl | rfl | rfl | rfl | rfl
    all_goals
     simp only [Nat.reduceAdd] at hn
     have q1:=@hY;refine wk Gs [] (AD g) A1 ?_;clear q1;with_reducible repeat' first|constructor|intro hc;try simp only[A3] at hc
     refine ⟨_,hjl,(by omega),Nat.le_refl _,?_⟩
     exact A2.cut rfl (by repeat' (first | exact True.intro | refine And.intro (by (first | rfl | ((with_reducible_and_instances refine congrArg (fun z => some (AV.d (D.i _ z))) ?_);omega) | (refine congrArg (fun z => some (AV.d (D.i _ z))) (?_ : (_ : Int) = _);omega) | (refine congrArg some ?_;simp only [hn];done) | (refine congrArg some ?_;simp [hn];done))) ?_)) (by repeat' (first | exact True.intro | refine And.intro (Or.inr rfl) ?_ | refine And.intro (Or.inl ⟨rfl,rfl⟩) ?_ | refine And.intro (Or.inr (by simp only [hn])) ?_ | refine And.intro (Or.inr (by simp [hn])) ?_)) (by first | rfl | (simp (decide:=true) [Ae,AC.ok,AV.oks,AV.ok,hk];done)) rfl
   | false =>
    rw [g,if_neg (by decide)] at hn
    rcases Li hjl with rfl | rfl | rfl | rfl | rfl | rfl | rfl | rfl | rfl | rfl | rfl | rfl | rfl | rfl | rfl | rfl
    all_goals
     simp only [Nat.reduceAdd] at hn
     have q1:=@hY;refine wk Gs [] (AD g) A1 ?_;clear q1;with_reducible repeat' first|constructor|intro hc;try simp only[A3] at hc
     refine ⟨_,hjl,(by omega),Nat.le_refl _,?_⟩
     exact A2.cut rfl (by repeat' (first | exact True.intro | refine And.intro (by (first | rfl | ((with_reducible_and_instances refine congrArg (fun z => some (AV.d (D.i _ z))) ?_);omega) | (refine congrArg (fun z => some (AV.d (D.i _ z))) (?_ : (_ : Int) = _);omega) | (refine congrArg some ?_;simp only [hn];done) | (refine congrArg some ?_;simp [hn];done))) ?_)) (by repeat' (first | exact True.intro | refine And.intro (Or.inr rfl) ?_ | refine And.intro (Or.inl ⟨rfl,rfl⟩) ?_ | refine And.intro (Or.inr (by simp only [hn])) ?_ | refine And.intro (Or.inr (by simp [hn])) ?_)) (by first | rfl | (simp (decide:=true) [Ae,AC.ok,AV.oks,AV.ok,hk];done)) rfl
  ·have e16 : j = 16:=by omega
   subst e16
   refine wk Gs [] A1 A1 ?_;with_reducible repeat' first|constructor|intro hc;try simp only[A3] at hc
   exact ⟨_,A2.refl _,Nat.le_refl _,_,_,rfl,rfl,rfl⟩
 ·rintro r hr x H' rfl
  refine .inl ⟨rfl,?_⟩
  generalize (CL f).foldl (NA id k) (list.foldl (Dn id k) (Dn id k p0 p0)) = p9 at *
  refine wk EP [] A1 A1 ?_;with_reducible repeat' first|constructor|intro hc;try simp only[A3] at hc
  refine ⟨_,_,rfl,rfl,?_⟩;simp [AE,A6,A5,A4]
end Nd
end Go.Proofs.YtnahkfkljohjaaaGreatDoor
