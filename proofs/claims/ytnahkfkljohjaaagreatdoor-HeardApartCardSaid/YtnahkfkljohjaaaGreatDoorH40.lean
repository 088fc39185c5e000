/- Part 40 of the texts of this proof, put together by a program and made short.
Conditions: none; what each theorem asks stands in its own hypotheses. -/
import Derived.Test.YtnahkfkljohjaaaGreatDoorH25
import Derived.Test.YtnahkfkljohjaaaGreatDoorH39
import Derived.Sort.Walk0
import Derived.KernelRfl
import Derived.RangeFuncIn
import Derived.OpenShut
import Derived.ProofKit
import Derived.CallsIn
import Derived.RangeFuncLeaves
import Derived.OrdersIn
import Derived.TacticsIn
import Derived.ChangeKeysEq
import Derived.Laws.AppendOwn
import Derived.Laws.OwnMore
import Derived.Laws.MakeOwn
import Derived.Laws.Rows
import Derived.Laws.Cells
import Derived.Laws.Tables
import Derived.Laws.CopyRow
import Derived.Laws.Strings
import Derived.Laws.IdiomStrings
import Derived.Laws.BytesArg
import Derived.Sort.Grow
import Derived.Laws.Cover3
import Derived.RecoverIn
import Derived.Test.YtnahkfkljohjaaaGreatDoorProg
set_option linter.unusedSimpArgs false
set_option linter.unusedVariables false
set_option linter.unnecessarySimpa false
set_option maxHeartbeats 40000000
namespace Go.Proofs.YtnahkfkljohjaaaGreatDoor
namespace Nd
open Go.Gar
open Wi (A8 B0 Ak AX B8 mC)
set_option maxRecDepth 4000
abbrev F8 : List Nat:=[0,1,2,3,4,5,6,7,8,9,10,28,33,60]
abbrev IU : List Nat:=[0,1,2,3,4,6,7,15,27]
theorem O4 (v : View) (l : List Int) : (BI v l).base.length = v.base.length ∧ (BI v l).list.length ≤ v.list.length + l.length:=by
 unfold BI;split
 ·exact ⟨rfl,Nat.le_add_left _ _⟩
 ·exact ⟨rfl,Nat.le_add_right _ _⟩
theorem QH {v : View} (h : AF v = true) : v.base.length ≤ 4 ∧ v.list.length ≤ 3:=by
 obtain ⟨-,h2,h3,-,-⟩:=Cv h
 unfold Bm at h2
 unfold BD at h3
 simp only [Bool.and_eq_true,decide_eq_true_eq] at h2 h3
 exact ⟨h2.1.2,h3.1⟩
theorem T3 (v : View) (phase of_ : Int) (m : A8) (h0 : 0 ≤ phase) (hb : v.base.length ≤ 1000) (hl : v.list.length ≤ 1000) (hm : Ab m) :
  Go.Gar.Fn Tryz.prog 39 [v.d,.agg [.i .u8 phase,.i .i64 of_],m.d] (.tup [(BW v phase of_ m).1.view.d,.agg [.i .u8 (BW v phase of_ m).1.phase,.i .i64 (BW v phase of_ m).1.of_],A9 (BW v phase of_ m).2]):=by
 have c1:=Fw v (by omega) (by omega)
 have c2:=Am v hb hl
 have c3:=Nn phase of_
 have hst:=Ro (v:=v) (phase:=phase) (of_:=of_) (m:=m)
 have hT : BW v phase of_ m = if AF v && (Bp phase of_ && P9 v phase of_ m) then
  (if phase = 3 then (⟨v,0,0⟩,[]) else if phase = 1 ∧ m.pred ≠ -1 ∧ D6 v.id m.pred m.src = true then (⟨BI v (E5 v.id m.src m.list),2,m.pred⟩,Fc 2 m.pred) else (⟨BI v (E5 v.id m.src m.list),3,Hd (BI v (E5 v.id m.src m.list))⟩,Fc 3 (Hd (BI v (E5 v.id m.src m.list))))) else (⟨v,phase,of_⟩,[]):=rfl
 refine A0 AB Tryz.func39 rfl rfl (Nat.le_of_ble_eq_true rfl) ?_
 cases h1 : AF v with
 | false =>
  rw [h1] at c2 hT
  rw [hT]
  clear hT hst
  obtain ⟨id,base,list,pred,f⟩:=v
  unfold Wi.A8.d Wi.A8.cells
  have sc : No 3:=trivial;refine wd F8 [] [(1,2)] A1 (Ao @c1 @c2) ?_;clear sc;with_reducible repeat' first|constructor|intro hc;try simp only[A3] at hc
  refine ⟨_,_,rfl,rfl,?_⟩;simp [AE,A6,A5,A4,View.d,View.cells]
 | true =>
 rw [h1] at c2 hT
 cases h2 : Bp phase of_ with
 | false =>
  rw [h2] at c3 hT
  rw [hT]
  clear hT hst
  obtain ⟨id,base,list,pred,f⟩:=v
  unfold Wi.A8.d Wi.A8.cells
  have sc : No 3:=trivial;refine wd F8 [] [(1,2)] A1 (Bo @c1 @c2 @c3) ?_;clear sc;with_reducible repeat' first|constructor|intro hc;try simp only[A3] at hc
  refine ⟨_,_,rfl,rfl,?_⟩;simp [AE,A6,A5,A4,View.d,View.cells]
 | true =>
 have hst':=(hst h2).2
 have c4:=SI v phase of_ m h0 h2 hm
 rw [h2] at c3 hT
 cases h3 : P9 v phase of_ m with
 | false =>
  rw [h3] at c4 hT
  rw [hT]
  clear hT hst hst'
  obtain ⟨id,base,list,pred,f⟩:=v
  unfold Wi.A8.d Wi.A8.cells at *
  have sc : No 3:=trivial;refine wd F8 [] [(1,2)] A1 (GD @c1 @c2 @c3 @c4) ?_;clear sc;with_reducible repeat' first|constructor|intro hc;try simp only[A3] at hc
  refine ⟨_,_,rfl,rfl,?_⟩;simp [AE,A6,A5,A4,View.d,View.cells]
 | true =>
 rw [h3] at c4 hT
 by_cases hp : phase = 3
 ·rw [Bool.true_and,Bool.true_and,if_pos rfl,if_pos hp] at hT
  rw [hT]
  clear hT hst hst'
  have c9:=NW 0 0 (Int.le_refl _) rfl
  rw [show Fc 0 0 = [] from rfl] at c9
  subst hp
  obtain ⟨id,base,list,pred,f⟩:=v
  unfold Wi.A8.d Wi.A8.cells at *
  have sc : No 3:=trivial;refine wd F8 [] [(1,4)] A1 (IF @c1 @c2 @c3 @c4 @c9) ?_;clear sc;with_reducible repeat' first|constructor|intro hc;try simp only[A3] at hc
  refine ⟨_,_,rfl,rfl,?_⟩;simp [AE,A6,A5,A4,View.d,View.cells]
 rw [Bool.true_and,Bool.true_and,if_pos rfl,if_neg hp] at hT
 have f3:=eq_false' hp
 have hll:=W1 v.id m.src m.list
 have hlen:=O4 v (E5 v.id m.src m.list)
 have c5:=XN v.id m.src m.list hm
 have c6:=Tj v (E5 v.id m.src m.list) hb hl (by omega)
 have hlens:=QH h1
 have c8:=M9 (BI v (E5 v.id m.src m.list)) (by omega) (by omega)
 generalize hw : BI v (E5 v.id m.src m.list) = w at *
 generalize E5 v.id m.src m.list = ml at *
 by_cases hq : phase = 1 ∧ m.pred ≠ -1 ∧ D6 v.id m.pred m.src = true
 ·have c7:=Nh v.id m.pred m.src
  rw [hq.2.2] at c7
  rw [if_pos hq] at hT
  rw [hT] at hst' ⊢
  have c9:=NW 2 m.pred (by decide) hst'
  have f1:=AA hq.1
  have f2:=BJ hq.2.1
  generalize Fc 2 m.pred = al at *
  clear hT hst hst' hq hw hlen
  obtain ⟨id,base,list,pred,f⟩:=v
  obtain ⟨id',base',list',pred',f'⟩:=w
  unfold Wi.A8.d Wi.A8.cells at *
  have sc : No 3:=trivial;refine wd F8 [] [(1,4)] (Bo f1 f2 f3) (Xx @c1 @c2 @c3 @c4 @c5 @c6 @c7 @c9) ?_;clear sc;with_reducible repeat' first|constructor|intro hc;try simp only[A3] at hc
  refine ⟨_,_,rfl,rfl,?_⟩;simp [AE,A6,A5,A4,View.d,View.cells]
 ·rw [if_neg hq] at hT
  rw [hT] at hst' ⊢
  have c9:=NW 3 (Hd w) (by decide) hst'
  generalize Fc 3 (Hd w) = al at *
  generalize Hd w = fw at *
  clear hT hst hst' hw hlen
  obtain ⟨id,base,list,pred,f⟩:=v
  obtain ⟨id',base',list',pred',f'⟩:=w
  by_cases q1 : phase = 1
  ·have f1:=AA q1
   by_cases q2 : m.pred = -1
   ·have f2:=AO q2
    unfold Wi.A8.d Wi.A8.cells at *
    have sc : No 3:=trivial;refine wd F8 [] [(1,4)] (Bo f1 f2 f3) (Xx @c1 @c2 @c3 @c4 @c5 @c6 @c8 @c9) ?_;clear sc;with_reducible repeat' first|constructor|intro hc;try simp only[A3] at hc
    refine ⟨_,_,rfl,rfl,?_⟩;simp [AE,A6,A5,A4,View.d,View.cells]
   ·have f2:=BJ q2
    have c7:=Nh id m.pred m.src
    have q3 : D6 id m.pred m.src = false:=by
     cases hh : D6 id m.pred m.src with
     | false => rfl
     | true => exact absurd ⟨q1,q2,hh⟩ hq
    rw [q3] at c7
    unfold Wi.A8.d Wi.A8.cells at *
    have sc : No 3:=trivial;refine wd F8 [] [(1,4)] (Bo f1 f2 f3) (zq9 @c1 @c2 @c3 @c4 @c5 @c6 @c7 @c8 @c9) ?_;clear sc;with_reducible repeat' first|constructor|intro hc;try simp only[A3] at hc
    refine ⟨_,_,rfl,rfl,?_⟩;simp [AE,A6,A5,A4,View.d,View.cells]
  ·have f1:=eq_false' q1
   unfold Wi.A8.d Wi.A8.cells at *
   have sc : No 3:=trivial;refine wd F8 [] [(1,4)] (Ao f1 f3) (Xx @c1 @c2 @c3 @c4 @c5 @c6 @c8 @c9) ?_;clear sc;with_reducible repeat' first|constructor|intro hc;try simp only[A3] at hc
   refine ⟨_,_,rfl,rfl,?_⟩;simp [AE,A6,A5,A4,View.d,View.cells]
theorem Ss (v : View) (phase of_ d : Int) (hb : v.base.length ≤ 1000) (hl : v.list.length ≤ 1000) :
  Go.Gar.Fn Tryz.prog 44 [v.d,.agg [.i .u8 phase,.i .i64 of_],.i .i64 d] (.tup [(C8 v phase of_ d).view.d,.agg [.i .u8 (C8 v phase of_ d).phase,.i .i64 (C8 v phase of_ d).of_]]):=by
 have c1:=Fw v (by omega) (by omega)
 have c2:=Am v hb hl
 have c3:=Nn phase of_
 have c4:=F0 v d hb hl
 have hT : C8 v phase of_ d = if AF v && Bp phase of_ then (if phase ≠ 0 ∧ of_ = d then ⟨Ad v d,0,0⟩ else ⟨Ad v d,phase,of_⟩) else ⟨v,phase,of_⟩:=rfl
 refine A0 AB Tryz.func44 rfl rfl (Nat.le_of_ble_eq_true rfl) ?_
 generalize Bp phase of_ = b2 at *
 generalize Ad v d = w at *
 cases h1 : AF v with
 | false =>
  rw [h1] at c2 hT
  rw [hT]
  clear hT
  obtain ⟨id,base,list,pred,f⟩:=v
  refine wd IU [] [(2,3)] A1 (Ao @c1 @c2) ?_;with_reducible repeat' first|constructor|intro hc;try simp only[A3] at hc
  refine ⟨_,_,rfl,rfl,?_⟩;simp [AE,A6,A5,A4,View.d,View.cells]
 | true =>
 rw [h1] at c2 hT
 cases b2 with
 | false =>
  rw [hT]
  clear hT
  obtain ⟨id,base,list,pred,f⟩:=v
  refine wd IU [] [(2,3)] A1 (Bo @c1 @c2 @c3) ?_;with_reducible repeat' first|constructor|intro hc;try simp only[A3] at hc
  refine ⟨_,_,rfl,rfl,?_⟩;simp [AE,A6,A5,A4,View.d,View.cells]
 | true =>
 rw [Bool.and_self,if_pos rfl] at hT
 obtain ⟨id,base,list,pred,f⟩:=v
 obtain ⟨id',base',list',pred',f'⟩:=w
 by_cases q1 : phase = 0
 ·have f1:=AO q1
  rw [if_neg (fun h => h.1 q1)] at hT
  rw [hT]
  clear hT
  refine wd IU [] [(3,4)] (AD f1) (Bo @c2 @c3 @c4) ?_;with_reducible repeat' first|constructor|intro hc;try simp only[A3] at hc
  refine ⟨_,_,rfl,rfl,?_⟩;simp [AE,A6,A5,A4,View.d,View.cells]
 ·have f1:=BJ q1
  by_cases q2 : of_ = d
  ·have f2:=AA q2
   rw [if_pos ⟨q1,q2⟩] at hT
   rw [hT]
   clear hT
   refine wd IU [] [(3,4)] (Ao f1 f2) (Bo @c2 @c3 @c4) ?_;with_reducible repeat' first|constructor|intro hc;try simp only[A3] at hc
   refine ⟨_,_,rfl,rfl,?_⟩;simp [AE,A6,A5,A4,View.d,View.cells]
  ·have f2:=eq_false' q2
   rw [if_neg (fun h => q2 h.2)] at hT
   rw [hT]
   clear hT
   refine wd IU [] [(3,4)] (Ao f1 f2) (Bo @c2 @c3 @c4) ?_;with_reducible repeat' first|constructor|intro hc;try simp only[A3] at hc
   refine ⟨_,_,rfl,rfl,?_⟩;simp [AE,A6,A5,A4,View.d,View.cells]
end Nd
end Go.Proofs.YtnahkfkljohjaaaGreatDoor
