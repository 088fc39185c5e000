/- Part 42 of the texts of this proof, put together by a program and made short.
Conditions: none; what each theorem asks stands in its own hypotheses. -/
import Derived.Test.YtnahkfkljohjaaaGreatDoorH29
import Derived.Test.YtnahkfkljohjaaaGreatDoorH41
import Derived.Ground.SlgfProg
import Derived.Lib.SliceRun
import Derived.Shelf.SlicesE.DeleteFunc
import Derived.Sort.Walk0
import Derived.KernelRfl
import Derived.RangeFuncIn
import Derived.OpenShut
import Derived.ProofKit
import Derived.CallsIn
import Derived.RangeFuncLeaves
import Derived.OrdersIn
import Derived.TacticsIn
import Derived.ChangeKeysEq
import Derived.Laws.AppendOwn
import Derived.Laws.OwnMore
import Derived.Laws.MakeOwn
import Derived.Laws.Rows
import Derived.Laws.Cells
import Derived.Laws.Tables
import Derived.Laws.CopyRow
import Derived.Laws.Strings
import Derived.Laws.IdiomStrings
import Derived.Laws.BytesArg
import Derived.Sort.Grow
import Derived.Laws.Cover3
import Derived.RecoverIn
import Derived.Test.YtnahkfkljohjaaaGreatDoorProg
set_option linter.unusedSimpArgs false
set_option linter.unusedVariables false
set_option linter.unnecessarySimpa false
set_option maxHeartbeats 40000000
namespace Go.Proofs.YtnahkfkljohjaaaGreatDoor
namespace Nd
open Go.Gar
open Wi (A8 B0 Ak AX B8 mC)
set_option maxRecDepth 4000
abbrev BK : List Nat:=[0,1,2,3,4,5,6,7,8,9,10,11,28,36]
theorem Xm (v : View) (j : Job) (m : A8) (hb : v.base.length ≤ 1000) (hl : v.list.length ≤ 1000) (hn : j.left.length ≤ 100000) (hm : Ab m) (h : (AF v && (m.right && decide (m.dst = v.id))) = false) : Go.Gar.Fn Tryz.prog 41 [v.d,j.d,m.d] (.tup [(JC.mk j [] false).job.d,AW (JC.mk j [] false).asks,.b (JC.mk j [] false).own]):=by
 have c0:=C5 j (by omega)
 have c1:=Am v hb hl
 have c2:=Wi.Cc m (by unfold Ab at hm;omega)
 obtain ⟨what,phase,look,item,owner,left,code⟩:=j
 unfold View.d View.cells at c1
 unfold Wi.A8.d Wi.A8.cells at c2
 unfold Job.d Job.cells at c0
 refine A0 AB Tryz.func41 rfl rfl (Nat.le_of_ble_eq_true rfl) ?_
 unfold View.d View.cells Job.d Job.cells Wi.A8.d Wi.A8.cells
 dsimp only
 cases h1 : AF v with
 | false =>
  rw [h1] at c1
  refine wd BK [2] [(0,4),(1,4)] A1 (AD @c0) ?_;with_reducible repeat' first|constructor|intro hc;try simp only[A3] at hc
  refine wd BK [6] [] A1 (AD @c1) ?_;with_reducible repeat' first|constructor|intro hc;try simp only[A3] at hc
  refine wd BK [] [(2,6),(3,6),(4,6),(5,6)] A1 A1 ?_;with_reducible repeat' first|constructor|intro hc;try simp only[A3] at hc
  refine ⟨_,_,rfl,rfl,?_⟩;simp [AE,A6,A5,A4]
 | true =>
  rw [h1] at c1 h
  cases h2 : m.right with
  | false =>
   rw [h2] at c2
   refine wd BK [2] [(0,4),(1,4)] A1 (AD @c0) ?_;with_reducible repeat' first|constructor|intro hc;try simp only[A3] at hc
   refine wd BK [6] [] A1 (Ao @c1 @c2) ?_;with_reducible repeat' first|constructor|intro hc;try simp only[A3] at hc
   refine wd BK [] [(2,6),(3,6),(4,6),(5,6)] A1 A1 ?_;with_reducible repeat' first|constructor|intro hc;try simp only[A3] at hc
   refine ⟨_,_,rfl,rfl,?_⟩;simp [AE,A6,A5,A4]
  | true =>
   rw [h2] at c2 h
   rw [Bool.true_and,Bool.true_and] at h
   have f1:=eq_false' (of_decide_eq_false h)
   refine wd BK [2] [(0,4),(1,4)] A1 (AD @c0) ?_;with_reducible repeat' first|constructor|intro hc;try simp only[A3] at hc
   refine wd BK [6] [] (AD f1) (Ao @c1 @c2) ?_;with_reducible repeat' first|constructor|intro hc;try simp only[A3] at hc
   refine wd BK [] [(2,6),(3,6),(4,6),(5,6)] A1 A1 ?_;with_reducible repeat' first|constructor|intro hc;try simp only[A3] at hc
   refine ⟨_,_,rfl,rfl,?_⟩;simp [AE,A6,A5,A4]
theorem Z1 (v : View) (j : Job) (m : A8) (hb : v.base.length ≤ 1000) (hl : v.list.length ≤ 1000) (hn : j.left.length ≤ 100000) (hm : Ab m) (h1 : AF v = true) (h2 : m.right = true) (h3 : m.dst = v.id) (h4 : j.phase = 1) : Go.Gar.Fn Tryz.prog 41 [v.d,j.d,m.d] (.tup [(if m.kind = 10 ∧ m.src = j.look.at_ then BU v ⟨j.what,j.phase,HW v j.look m,j.item,j.owner,j.left,j.code⟩ else ⟨j,[],false⟩).job.d,AW (if m.kind = 10 ∧ m.src = j.look.at_ then BU v ⟨j.what,j.phase,HW v j.look m,j.item,j.owner,j.left,j.code⟩ else ⟨j,[],false⟩).asks,.b (if m.kind = 10 ∧ m.src = j.look.at_ then BU v ⟨j.what,j.phase,HW v j.look m,j.item,j.owner,j.left,j.code⟩ else ⟨j,[],false⟩).own]):=by
 have c0:=C5 j (by omega)
 have c1:=Am v hb hl
 have c2:=Wi.Cc m (by unfold Ab at hm;omega)
 have c3:=Ei v j
 have c4:=VK v j m hb hl hm
 generalize (if m.kind = 10 ∧ m.src = j.look.at_ then BU v ⟨j.what,j.phase,HW v j.look m,j.item,j.owner,j.left,j.code⟩ else ⟨j,[],false⟩) = r at *
 obtain ⟨what,phase,look,item,owner,left,code⟩:=j
 unfold View.d View.cells at c1
 unfold Wi.A8.d Wi.A8.cells at c2
 unfold Job.d Job.cells at c0
 refine A0 AB Tryz.func41 rfl rfl (Nat.le_of_ble_eq_true rfl) ?_
 unfold View.d View.cells Job.d Job.cells Wi.A8.d Wi.A8.cells
 dsimp only at h4
 subst h4
 rw [h1] at c1
 rw [h2] at c2
 have f1:=AA h3
 unfold Wi.A8.d Wi.A8.cells at c4
 unfold jD jT jE at c4
 simp only [List.cons_append,List.nil_append] at c4
 unfold jC at *
 unfold Lx at *
 dsimp only at c0 c3 c4 ⊢
 refine wd BK [2] [(0,4),(1,4)] A1 (AD @c0) ?_;with_reducible repeat' first|constructor|intro hc;try simp only[A3] at hc
 have d1:=Ds.mk [4] (c3);have d2:=Ds.mk [4,5,6] (c4);refine wd BK [6] [(1,0),(2,0)] (AD f1) (Ao @c1 @c2) ?_;clear d2 d1;with_reducible repeat' first|constructor|intro hc;try simp only[A3] at hc
 refine wd BK [] [(2,6),(3,6),(4,6),(5,6)] A1 A1 ?_;with_reducible repeat' first|constructor|intro hc;try simp only[A3] at hc
 refine ⟨_,_,rfl,rfl,?_⟩;simp [AE,A6,A5,A4]
theorem Zy (v : View) (j : Job) (m : A8) (hb : v.base.length ≤ 1000) (hl : v.list.length ≤ 1000) (hn : j.left.length ≤ 100000) (hm : Ab m) (h1 : AF v = true) (h2 : m.right = true) (h3 : m.dst = v.id) (h4 : j.phase = 2) : Go.Gar.Fn Tryz.prog 41 [v.d,j.d,m.d] (.tup [(if m.kind = 7 ∧ m.src = j.owner then Ev v.id j j.owner m.list else ⟨j,[],false⟩).job.d,AW (if m.kind = 7 ∧ m.src = j.owner then Ev v.id j j.owner m.list else ⟨j,[],false⟩).asks,.b (if m.kind = 7 ∧ m.src = j.owner then Ev v.id j j.owner m.list else ⟨j,[],false⟩).own]):=by
 have c0:=C5 j (by omega)
 have c1:=Am v hb hl
 have c2:=Wi.Cc m (by unfold Ab at hm;omega)
 have c3:=Ei v j
 have c4:=UE v j m hm
 generalize (if m.kind = 7 ∧ m.src = j.owner then Ev v.id j j.owner m.list else ⟨j,[],false⟩) = r at *
 obtain ⟨what,phase,look,item,owner,left,code⟩:=j
 unfold View.d View.cells at c1
 unfold Wi.A8.d Wi.A8.cells at c2
 unfold Job.d Job.cells at c0
 refine A0 AB Tryz.func41 rfl rfl (Nat.le_of_ble_eq_true rfl) ?_
 unfold View.d View.cells Job.d Job.cells Wi.A8.d Wi.A8.cells
 dsimp only at h4
 subst h4
 rw [h1] at c1
 rw [h2] at c2
 have f1:=AA h3
 unfold Wi.A8.d Wi.A8.cells at c4
 unfold jD jT jE at c4
 simp only [List.cons_append,List.nil_append] at c4
 unfold jC at *
 unfold Lx at *
 dsimp only at c0 c3 c4 ⊢
 refine wd BK [2] [(0,4),(1,4)] A1 (AD @c0) ?_;with_reducible repeat' first|constructor|intro hc;try simp only[A3] at hc
 have d1:=Ds.mk [4] (c3);have d2:=Ds.mk [4,5,6] (c4);refine wd BK [6] [(1,0),(2,0)] (AD f1) (Ao @c1 @c2) ?_;clear d2 d1;with_reducible repeat' first|constructor|intro hc;try simp only[A3] at hc
 refine wd BK [] [(2,6),(3,6),(4,6),(5,6)] A1 A1 ?_;with_reducible repeat' first|constructor|intro hc;try simp only[A3] at hc
 refine ⟨_,_,rfl,rfl,?_⟩;simp [AE,A6,A5,A4]
theorem VA (v : View) (j : Job) (m : A8) (hb : v.base.length ≤ 1000) (hl : v.list.length ≤ 1000) (hn : j.left.length ≤ 100000) (hm : Ab m) (h1 : AF v = true) (h2 : m.right = true) (h3 : m.dst = v.id) (h4 : j.phase = 3) (h : m.kind ≠ 11 ∨ m.src ∉ j.left) : Go.Gar.Fn Tryz.prog 41 [v.d,j.d,m.d] (.tup [(JC.mk (if m.kind = 11 then Bz j m.src m.code else j) [] false).job.d,AW (JC.mk (if m.kind = 11 then Bz j m.src m.code else j) [] false).asks,.b (JC.mk (if m.kind = 11 then Bz j m.src m.code else j) [] false).own]):=by
 have c0:=C5 j (by omega)
 have c1:=Am v hb hl
 have c2:=Wi.Cc m (by unfold Ab at hm;omega)
 have c3:=Ei v j
 have c4:=UM v j m h hn
 generalize (JC.mk (if m.kind = 11 then Bz j m.src m.code else j) [] false) = r at *
 obtain ⟨what,phase,look,item,owner,left,code⟩:=j
 unfold View.d View.cells at c1
 unfold Wi.A8.d Wi.A8.cells at c2
 unfold Job.d Job.cells at c0
 refine A0 AB Tryz.func41 rfl rfl (Nat.le_of_ble_eq_true rfl) ?_
 unfold View.d View.cells Job.d Job.cells Wi.A8.d Wi.A8.cells
 dsimp only at h4
 subst h4
 rw [h1] at c1
 rw [h2] at c2
 have f1:=AA h3
 unfold Wi.A8.d Wi.A8.cells at c4
 unfold jD jT jE at c4
 simp only [List.cons_append,List.nil_append] at c4
 unfold jC at *
 unfold Lx at *
 dsimp only at c0 c3 c4 ⊢
 refine wd BK [2] [(0,4),(1,4)] A1 (AD @c0) ?_;with_reducible repeat' first|constructor|intro hc;try simp only[A3] at hc
 have d1:=Ds.mk [4] (c3);have d2:=Ds.mk [4,5,6] (c4);refine wd BK [6] [(1,0),(2,0)] (AD f1) (Ao @c1 @c2) ?_;clear d2 d1;with_reducible repeat' first|constructor|intro hc;try simp only[A3] at hc
 refine wd BK [] [(2,6),(3,6),(4,6),(5,6)] A1 A1 ?_;with_reducible repeat' first|constructor|intro hc;try simp only[A3] at hc
 refine ⟨_,_,rfl,rfl,?_⟩;simp [AE,A6,A5,A4]
theorem Zf (v : View) (j : Job) (m : A8) (hb : v.base.length ≤ 1000) (hl : v.list.length ≤ 1000) (hn : j.left.length ≤ 100000) (hm : Ab m) (h1 : AF v = true) (h2 : m.right = true) (h3 : m.dst = v.id) (h4 : j.phase = 4) : Go.Gar.Fn Tryz.prog 41 [v.d,j.d,m.d] (.tup [(if m.kind = 12 ∧ m.src = j.owner then JC.mk (BG (BH ⟨j.what,j.phase,j.look,if m.code = 0 then m.item else j.item,j.owner,j.left,j.code⟩ m.code)) [] false else ⟨j,[],false⟩).job.d,AW (if m.kind = 12 ∧ m.src = j.owner then JC.mk (BG (BH ⟨j.what,j.phase,j.look,if m.code = 0 then m.item else j.item,j.owner,j.left,j.code⟩ m.code)) [] false else ⟨j,[],false⟩).asks,.b (if m.kind = 12 ∧ m.src = j.owner then JC.mk (BG (BH ⟨j.what,j.phase,j.look,if m.code = 0 then m.item else j.item,j.owner,j.left,j.code⟩ m.code)) [] false else ⟨j,[],false⟩).own]):=by
 have c0:=C5 j (by omega)
 have c1:=Am v hb hl
 have c2:=Wi.Cc m (by unfold Ab at hm;omega)
 have c3:=Ei v j
 have c4:=VP v j m
 generalize (if m.kind = 12 ∧ m.src = j.owner then JC.mk (BG (BH ⟨j.what,j.phase,j.look,if m.code = 0 then m.item else j.item,j.owner,j.left,j.code⟩ m.code)) [] false else ⟨j,[],false⟩) = r at *
 obtain ⟨what,phase,look,item,owner,left,code⟩:=j
 unfold View.d View.cells at c1
 unfold Wi.A8.d Wi.A8.cells at c2
 unfold Job.d Job.cells at c0
 refine A0 AB Tryz.func41 rfl rfl (Nat.le_of_ble_eq_true rfl) ?_
 unfold View.d View.cells Job.d Job.cells Wi.A8.d Wi.A8.cells
 dsimp only at h4
 subst h4
 rw [h1] at c1
 rw [h2] at c2
 have f1:=AA h3
 unfold Wi.A8.d Wi.A8.cells at c4
 unfold jD jT jE at c4
 simp only [List.cons_append,List.nil_append] at c4
 unfold jC at *
 unfold Lx at *
 dsimp only at c0 c3 c4 ⊢
 refine wd BK [2] [(0,4),(1,4)] A1 (AD @c0) ?_;with_reducible repeat' first|constructor|intro hc;try simp only[A3] at hc
 have d1:=Ds.mk [4] (c3);have d2:=Ds.mk [4,5,6] (c4);refine wd BK [6] [(1,0),(2,0)] (AD f1) (Ao @c1 @c2) ?_;clear d2 d1;with_reducible repeat' first|constructor|intro hc;try simp only[A3] at hc
 refine wd BK [] [(2,6),(3,6),(4,6),(5,6)] A1 A1 ?_;with_reducible repeat' first|constructor|intro hc;try simp only[A3] at hc
 refine ⟨_,_,rfl,rfl,?_⟩;simp [AE,A6,A5,A4]
theorem ZR (v : View) (j : Job) (m : A8) (hb : v.base.length ≤ 1000) (hl : v.list.length ≤ 1000) (hn : j.left.length ≤ 100000) (hm : Ab m) (h1 : AF v = true) (h2 : m.right = true) (h3 : m.dst = v.id) (h4 : j.phase ≠ 1 ∧ j.phase ≠ 2 ∧ j.phase ≠ 3 ∧ j.phase ≠ 4) : Go.Gar.Fn Tryz.prog 41 [v.d,j.d,m.d] (.tup [(JC.mk j [] false).job.d,AW (JC.mk j [] false).asks,.b (JC.mk j [] false).own]):=by
 have c0:=C5 j (by omega)
 have c1:=Am v hb hl
 have c2:=Wi.Cc m (by unfold Ab at hm;omega)
 have c3:=Ei v j
 obtain ⟨what,phase,look,item,owner,left,code⟩:=j
 unfold View.d View.cells at c1
 unfold Wi.A8.d Wi.A8.cells at c2
 unfold Job.d Job.cells at c0
 refine A0 AB Tryz.func41 rfl rfl (Nat.le_of_ble_eq_true rfl) ?_
 unfold View.d View.cells Job.d Job.cells Wi.A8.d Wi.A8.cells
 dsimp only at h4
 rw [h1] at c1
 rw [h2] at c2
 have f1:=AA h3
 unfold jC at *
 unfold Lx at *
 have hk : HP phase [1,2,3,4] = true:=by simp [HP,h4]
 dsimp only at c0 c3 ⊢
 refine wd BK [2] [(0,4),(1,4)] A1 (AD @c0) ?_;with_reducible repeat' first|constructor|intro hc;try simp only[A3] at hc
 have d1:=Ds.mk [4] (c3);have lk1:=hk;refine wd BK [6] [(1,0),(2,0)] (AD f1) (Ao @c1 @c2) ?_;clear lk1 d1;with_reducible repeat' first|constructor|intro hc;try simp only[A3] at hc
 refine wd BK [] [(2,6),(3,6),(4,6),(5,6)] A1 A1 ?_;with_reducible repeat' first|constructor|intro hc;try simp only[A3] at hc
 refine ⟨_,_,rfl,rfl,?_⟩;simp [AE,A6,A5,A4]
theorem Vn (v : View) (j : Job) (m : A8) (hb : v.base.length ≤ 1000) (hl : v.list.length ≤ 1000) (hn : j.left.length ≤ 100000) (hm : Ab m) : Go.Gar.Fn Tryz.prog 41 [v.d,j.d,m.d] (.tup [(As v j m).job.d,AW (As v j m).asks,.b (As v j m).own]):=by
 unfold As
 cases h : AF v && (m.right && decide (m.dst = v.id)) with
 | false => exact Xm v j m hb hl hn hm h
 | true =>
  rw [if_pos rfl]
  simp only [Bool.and_eq_true,decide_eq_true_eq] at h
  obtain ⟨h1,h2,h3⟩:=h
  by_cases p1 : j.phase = 1
  ·rw [if_pos p1];exact Z1 v j m hb hl hn hm h1 h2 h3 p1
  rw [if_neg p1]
  by_cases p2 : j.phase = 2
  ·rw [if_pos p2];exact Zy v j m hb hl hn hm h1 h2 h3 p2
  rw [if_neg p2]
  by_cases p3 : j.phase = 3
  ·rw [if_pos p3]
   by_cases hk : m.kind = 11
   ·rw [if_pos hk]
    by_cases hs : m.src ∈ j.left
    ·exact aF v j m hb hl hn hm h1 h2 h3 p3 ⟨hk,hs⟩
    ·have:=VA v j m hb hl hn hm h1 h2 h3 p3 (.inr hs)
     rw [if_pos hk] at this
     exact this
   ·rw [if_neg hk]
    have:=VA v j m hb hl hn hm h1 h2 h3 p3 (.inl hk)
    rw [if_neg hk] at this
    exact this
  rw [if_neg p3]
  by_cases p4 : j.phase = 4
  ·rw [if_pos p4];exact Zf v j m hb hl hn hm h1 h2 h3 p4
  ·rw [if_neg p4];exact ZR v j m hb hl hn hm h1 h2 h3 ⟨p1,p2,p3,p4⟩
end Nd
end Go.Proofs.YtnahkfkljohjaaaGreatDoor
