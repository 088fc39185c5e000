/- Part 43 of the texts of this proof, put together by a program and made short.
Conditions: none; what each theorem asks stands in its own hypotheses. -/
import Derived.Test.YtnahkfkljohjaaaGreatDoorH29
import Derived.Test.YtnahkfkljohjaaaGreatDoorH41
import Derived.Ground.SlgfProg
import Derived.Lib.SliceRun
import Derived.Shelf.SlicesE.DeleteFunc
import Derived.Sort.Walk0
import Derived.KernelRfl
import Derived.RangeFuncIn
import Derived.OpenShut
import Derived.ProofKit
import Derived.CallsIn
import Derived.RangeFuncLeaves
import Derived.OrdersIn
import Derived.TacticsIn
import Derived.ChangeKeysEq
import Derived.Laws.AppendOwn
import Derived.Laws.OwnMore
import Derived.Laws.MakeOwn
import Derived.Laws.Rows
import Derived.Laws.Cells
import Derived.Laws.Tables
import Derived.Laws.CopyRow
import Derived.Laws.Strings
import Derived.Laws.IdiomStrings
import Derived.Laws.BytesArg
import Derived.Sort.Grow
import Derived.Laws.Cover3
import Derived.RecoverIn
import Derived.Test.YtnahkfkljohjaaaGreatDoorProg
set_option linter.unusedSimpArgs false
set_option linter.unusedVariables false
set_option linter.unnecessarySimpa false
set_option maxHeartbeats 40000000
namespace Go.Proofs.YtnahkfkljohjaaaGreatDoor
namespace Nd
open Go.Gar
open Wi (A8 B0 Ak AX B8 mC)
set_option maxRecDepth 4000
abbrev BO : List Nat:=[0,1,2,3,4,6,7,8,9,10,11,17,25]
theorem XW (v : View) (j : Job) (d : Int) (hb : v.base.length ≤ 1000) (hl : v.list.length ≤ 1000) (hn : j.left.length ≤ 100000) (h : AF v = false) : Go.Gar.Fn Tryz.prog 46 [v.d,j.d,.i .i64 d] (.tup [(JC.mk j [] false).job.d,AW (JC.mk j [] false).asks,.b (JC.mk j [] false).own]):=by
 have c0:=C5 j (by omega)
 have c1:=Am v hb hl
 obtain ⟨what,phase,look,item,owner,left,code⟩:=j
 unfold View.d View.cells at c1
 unfold Job.d Job.cells at c0
 refine A0 AB Tryz.func46 rfl rfl (Nat.le_of_ble_eq_true rfl) ?_
 unfold View.d View.cells Job.d Job.cells
 dsimp only
 rw [h] at c1
 refine wd BO [2] [(0,4),(1,4)] A1 (AD @c0) ?_;with_reducible repeat' first|constructor|intro hc;try simp only[A3] at hc
 refine wd BO [6] [] A1 (AD @c1) ?_;with_reducible repeat' first|constructor|intro hc;try simp only[A3] at hc
 refine wd BO [] [(2,6),(3,6),(4,6),(5,6)] A1 A1 ?_;with_reducible repeat' first|constructor|intro hc;try simp only[A3] at hc
 refine ⟨_,_,rfl,rfl,?_⟩;simp [AE,A6,A5,A4]
theorem Zk (v : View) (j : Job) (d : Int) (hb : v.base.length ≤ 1000) (hl : v.list.length ≤ 1000) (hn : j.left.length ≤ 100000) (h1 : AF v = true) (h4 : j.phase = 1) : Go.Gar.Fn Tryz.prog 46 [v.d,j.d,.i .i64 d] (.tup [(if j.look.at_ = d then BU v ⟨j.what,j.phase,PR v j.look,j.item,j.owner,j.left,j.code⟩ else ⟨j,[],false⟩).job.d,AW (if j.look.at_ = d then BU v ⟨j.what,j.phase,PR v j.look,j.item,j.owner,j.left,j.code⟩ else ⟨j,[],false⟩).asks,.b (if j.look.at_ = d then BU v ⟨j.what,j.phase,PR v j.look,j.item,j.owner,j.left,j.code⟩ else ⟨j,[],false⟩).own]):=by
 have c0:=C5 j (by omega)
 have c1:=Am v hb hl
 have c3:=Eg v j
 have c4:=VC v j d hb hl
 generalize (if j.look.at_ = d then BU v ⟨j.what,j.phase,PR v j.look,j.item,j.owner,j.left,j.code⟩ else ⟨j,[],false⟩) = r at *
 obtain ⟨what,phase,look,item,owner,left,code⟩:=j
 unfold View.d View.cells at c1
 unfold Job.d Job.cells at c0
 refine A0 AB Tryz.func46 rfl rfl (Nat.le_of_ble_eq_true rfl) ?_
 unfold View.d View.cells Job.d Job.cells
 dsimp only at h4
 subst h4
 rw [h1] at c1
 unfold jD jT jE at c4
 simp only [List.cons_append,List.nil_append] at c4
 unfold jC at *
 unfold ML at *
 dsimp only at c0 c3 c4 ⊢
 refine wd BO [2] [(0,4),(1,4)] A1 (AD @c0) ?_;with_reducible repeat' first|constructor|intro hc;try simp only[A3] at hc
 have d1:=Ds.mk [3] (c3);have d2:=Ds.mk [3,4,5] (c4);refine wd BO [6] [(1,0),(2,0)] A1 (AD @c1) ?_;clear d2 d1;with_reducible repeat' first|constructor|intro hc;try simp only[A3] at hc
 refine wd BO [] [(2,6),(3,6),(4,6),(5,6)] A1 A1 ?_;with_reducible repeat' first|constructor|intro hc;try simp only[A3] at hc
 refine ⟨_,_,rfl,rfl,?_⟩;simp [AE,A6,A5,A4]
theorem ZE (v : View) (j : Job) (d : Int) (hb : v.base.length ≤ 1000) (hl : v.list.length ≤ 1000) (hn : j.left.length ≤ 100000) (h1 : AF v = true) (h4 : j.phase = 2) : Go.Gar.Fn Tryz.prog 46 [v.d,j.d,.i .i64 d] (.tup [(if j.owner = d then JC.mk (BG (BH j 210)) [] false else ⟨j,[],false⟩).job.d,AW (if j.owner = d then JC.mk (BG (BH j 210)) [] false else ⟨j,[],false⟩).asks,.b (if j.owner = d then JC.mk (BG (BH j 210)) [] false else ⟨j,[],false⟩).own]):=by
 have c0:=C5 j (by omega)
 have c1:=Am v hb hl
 have c3:=Eg v j
 have c4:=Oj v j d
 generalize (if j.owner = d then JC.mk (BG (BH j 210)) [] false else ⟨j,[],false⟩) = r at *
 obtain ⟨what,phase,look,item,owner,left,code⟩:=j
 unfold View.d View.cells at c1
 unfold Job.d Job.cells at c0
 refine A0 AB Tryz.func46 rfl rfl (Nat.le_of_ble_eq_true rfl) ?_
 unfold View.d View.cells Job.d Job.cells
 dsimp only at h4
 subst h4
 rw [h1] at c1
 unfold jD jT jE at c4
 simp only [List.cons_append,List.nil_append] at c4
 unfold jC at *
 unfold ML at *
 dsimp only at c0 c3 c4 ⊢
 refine wd BO [2] [(0,4),(1,4)] A1 (AD @c0) ?_;with_reducible repeat' first|constructor|intro hc;try simp only[A3] at hc
 have d1:=Ds.mk [3] (c3);have d2:=Ds.mk [3,4,5] (c4);refine wd BO [6] [(1,0),(2,0)] A1 (AD @c1) ?_;clear d2 d1;with_reducible repeat' first|constructor|intro hc;try simp only[A3] at hc
 refine wd BO [] [(2,6),(3,6),(4,6),(5,6)] A1 A1 ?_;with_reducible repeat' first|constructor|intro hc;try simp only[A3] at hc
 refine ⟨_,_,rfl,rfl,?_⟩;simp [AE,A6,A5,A4]
theorem ZD (v : View) (j : Job) (d : Int) (hb : v.base.length ≤ 1000) (hl : v.list.length ≤ 1000) (hn : j.left.length ≤ 100000) (h1 : AF v = true) (h4 : j.phase = 4) : Go.Gar.Fn Tryz.prog 46 [v.d,j.d,.i .i64 d] (.tup [(if j.owner = d then JC.mk (BG (BH j 210)) [] false else ⟨j,[],false⟩).job.d,AW (if j.owner = d then JC.mk (BG (BH j 210)) [] false else ⟨j,[],false⟩).asks,.b (if j.owner = d then JC.mk (BG (BH j 210)) [] false else ⟨j,[],false⟩).own]):=by
 have c0:=C5 j (by omega)
 have c1:=Am v hb hl
 have c3:=Eg v j
 have c4:=Oj v j d
 generalize (if j.owner = d then JC.mk (BG (BH j 210)) [] false else ⟨j,[],false⟩) = r at *
 obtain ⟨what,phase,look,item,owner,left,code⟩:=j
 unfold View.d View.cells at c1
 unfold Job.d Job.cells at c0
 refine A0 AB Tryz.func46 rfl rfl (Nat.le_of_ble_eq_true rfl) ?_
 unfold View.d View.cells Job.d Job.cells
 dsimp only at h4
 subst h4
 rw [h1] at c1
 unfold jD jT jE at c4
 simp only [List.cons_append,List.nil_append] at c4
 unfold jC at *
 unfold ML at *
 dsimp only at c0 c3 c4 ⊢
 refine wd BO [2] [(0,4),(1,4)] A1 (AD @c0) ?_;with_reducible repeat' first|constructor|intro hc;try simp only[A3] at hc
 have d1:=Ds.mk [3] (c3);have d2:=Ds.mk [3,4,5] (c4);refine wd BO [6] [(1,0),(2,0)] A1 (AD @c1) ?_;clear d2 d1;with_reducible repeat' first|constructor|intro hc;try simp only[A3] at hc
 refine wd BO [] [(2,6),(3,6),(4,6),(5,6)] A1 A1 ?_;with_reducible repeat' first|constructor|intro hc;try simp only[A3] at hc
 refine ⟨_,_,rfl,rfl,?_⟩;simp [AE,A6,A5,A4]
theorem Zc (v : View) (j : Job) (d : Int) (hb : v.base.length ≤ 1000) (hl : v.list.length ≤ 1000) (hn : j.left.length ≤ 100000) (h1 : AF v = true) (h4 : j.phase = 3) (h : d ∉ j.left) : Go.Gar.Fn Tryz.prog 46 [v.d,j.d,.i .i64 d] (.tup [(JC.mk (Bz j d 210) [] false).job.d,AW (JC.mk (Bz j d 210) [] false).asks,.b (JC.mk (Bz j d 210) [] false).own]):=by
 have c0:=C5 j (by omega)
 have c1:=Am v hb hl
 have c3:=Eg v j
 have c4:=VR v j d h hn
 generalize (JC.mk (Bz j d 210) [] false) = r at *
 obtain ⟨what,phase,look,item,owner,left,code⟩:=j
 unfold View.d View.cells at c1
 unfold Job.d Job.cells at c0
 refine A0 AB Tryz.func46 rfl rfl (Nat.le_of_ble_eq_true rfl) ?_
 unfold View.d View.cells Job.d Job.cells
 dsimp only at h4
 subst h4
 rw [h1] at c1
 unfold jD jT jE at c4
 simp only [List.cons_append,List.nil_append] at c4
 unfold jC at *
 unfold ML at *
 dsimp only at c0 c3 c4 ⊢
 refine wd BO [2] [(0,4),(1,4)] A1 (AD @c0) ?_;with_reducible repeat' first|constructor|intro hc;try simp only[A3] at hc
 have d1:=Ds.mk [3] (c3);have d2:=Ds.mk [3,4,5] (c4);refine wd BO [6] [(1,0),(2,0)] A1 (AD @c1) ?_;clear d2 d1;with_reducible repeat' first|constructor|intro hc;try simp only[A3] at hc
 refine wd BO [] [(2,6),(3,6),(4,6),(5,6)] A1 A1 ?_;with_reducible repeat' first|constructor|intro hc;try simp only[A3] at hc
 refine ⟨_,_,rfl,rfl,?_⟩;simp [AE,A6,A5,A4]
theorem Z5 (v : View) (j : Job) (d : Int) (hb : v.base.length ≤ 1000) (hl : v.list.length ≤ 1000) (hn : j.left.length ≤ 100000) (h1 : AF v = true) (h4 : j.phase ≠ 1 ∧ j.phase ≠ 2 ∧ j.phase ≠ 3 ∧ j.phase ≠ 4) : Go.Gar.Fn Tryz.prog 46 [v.d,j.d,.i .i64 d] (.tup [(JC.mk j [] false).job.d,AW (JC.mk j [] false).asks,.b (JC.mk j [] false).own]):=by
 have c0:=C5 j (by omega)
 have c1:=Am v hb hl
 have c3:=Eg v j
 obtain ⟨what,phase,look,item,owner,left,code⟩:=j
 unfold View.d View.cells at c1
 unfold Job.d Job.cells at c0
 refine A0 AB Tryz.func46 rfl rfl (Nat.le_of_ble_eq_true rfl) ?_
 unfold View.d View.cells Job.d Job.cells
 dsimp only at h4
 rw [h1] at c1
 unfold jC at *
 unfold ML at *
 have hk : HP phase [1,2,3,4] = true:=by simp [HP,h4]
 dsimp only at c0 c3 ⊢
 refine wd BO [2] [(0,4),(1,4)] A1 (AD @c0) ?_;with_reducible repeat' first|constructor|intro hc;try simp only[A3] at hc
 have d1:=Ds.mk [3] (c3);have lk1:=hk;refine wd BO [6] [(1,0),(2,0)] A1 (AD @c1) ?_;clear lk1 d1;with_reducible repeat' first|constructor|intro hc;try simp only[A3] at hc
 refine wd BO [] [(2,6),(3,6),(4,6),(5,6)] A1 A1 ?_;with_reducible repeat' first|constructor|intro hc;try simp only[A3] at hc
 refine ⟨_,_,rfl,rfl,?_⟩;simp [AE,A6,A5,A4]
theorem ZG (v : View) (j : Job) (d : Int) (hb : v.base.length ≤ 1000) (hl : v.list.length ≤ 1000) (hn : j.left.length ≤ 100000) (h1 : AF v = true) (h4 : j.phase = 3) (h : d ∈ j.left) : Go.Gar.Fn Tryz.prog 46 [v.d,j.d,.i .i64 d] (.tup [(Bz j d 210).d,AW [],.b false]):=by
 have h0 : j.left ≠ []:=fun e => by rw [e] at h;cases h
 have c0:=OP j (by omega) h0
 have c1:=Am v hb hl
 have c3:=PC v j
 have c4:=TG v j d h hn
 generalize Bz j d 210 = r at *
 obtain ⟨what,phase,look,item,owner,left,code⟩:=j
 dsimp only at h4
 subst h4
 unfold View.d View.cells at c1
 unfold Job.d Job.cells FW at c0
 refine A0 AB Tryz.func46 rfl rfl (Nat.le_of_ble_eq_true rfl) ?_
 unfold View.d View.cells Job.d Job.cells
 rw [h1] at c1
 unfold jO jT jE at c4
 simp only [List.cons_append,List.nil_append] at c4
 unfold jC at *
 unfold Yu at *
 dsimp only at c0 c3 c4 ⊢
 refine wd BO [1] [] A1 A1 ?_;with_reducible repeat' first|constructor|intro hc;try simp only[A3] at hc
 refine Na T.get 2 4 3 4 ⟨[(0,.d (.agg [.i .i64 v.id,.is v.base,.is v.list,.i .i64 v.pred,.i .i64 (v.f 0),.i .i64 (v.f 1),.i .i64 (v.f 2),.i .i64 (v.f 3),.i .i64 (v.f 4),.i .i64 (v.f 5),.i .i64 (v.f 6),.i .i64 (v.f 7),.i .i64 (v.f 8),.i .i64 (v.f 9),.i .i64 (v.f 10),.i .i64 (v.f 11),.i .i64 (v.f 12),.i .i64 (v.f 13),.i .i64 (v.f 14),.i .i64 (v.f 15)])),(1,.d (.agg [.i .u8 what,.i .u8 3,.i .i64 look.key,.i .i64 look.at_,.i .i64 look.hops,.b look.slow,.b look.found,.i .i64 look.code,.s item.key,.i .i64 item.value,.i .i64 item.version,.b item.gone,.i .i64 owner,.is left,.i .i64 code])),(2,.d (.i .i64 d)),(3,.ptr 0 0 20),(4,.ptr 1 0 15),(6,.ptr 2 0 15),(7,.e0),(8,.d (.b false)),(9,.ptr 4 0 37)],[.c [.d (.i .i64 v.id),.d (.is v.base),.d (.is v.list),.d (.i .i64 v.pred),.d (.i .i64 (v.f 0)),.d (.i .i64 (v.f 1)),.d (.i .i64 (v.f 2)),.d (.i .i64 (v.f 3)),.d (.i .i64 (v.f 4)),.d (.i .i64 (v.f 5)),.d (.i .i64 (v.f 6)),.d (.i .i64 (v.f 7)),.d (.i .i64 (v.f 8)),.d (.i .i64 (v.f 9)),.d (.i .i64 (v.f 10)),.d (.i .i64 (v.f 11)),.d (.i .i64 (v.f 12)),.d (.i .i64 (v.f 13)),.d (.i .i64 (v.f 14)),.d (.i .i64 (v.f 15))],.c [.d (.i .u8 what),.d (.i .u8 3),.d (.i .i64 look.key),.d (.i .i64 look.at_),.d (.i .i64 look.hops),.d (.b look.slow),.d (.b look.found),.d (.i .i64 look.code),.d (.s item.key),.d (.i .i64 item.value),.d (.i .i64 item.version),.d (.b item.gone),.d (.i .i64 owner),.d (.is left),.d (.i .i64 code)],.c [.d (.i .u8 0),.d (.i .u8 0),.d (.i .i64 0),.d (.i .i64 0),.d (.i .i64 0),.d (.b false),.d (.b false),.d (.i .i64 0),.d (.s []),.d (.i .i64 0),.d (.i .i64 0),.d (.b false),.d (.i .i64 0),.e0,.d (.i .i64 0)],.a (.is left),.c [.d (.i .i64 v.id),.d (.is v.base),.d (.is v.list),.d (.i .i64 v.pred),.d (.i .i64 (v.f 0)),.d (.i .i64 (v.f 1)),.d (.i .i64 (v.f 2)),.d (.i .i64 (v.f 3)),.d (.i .i64 (v.f 4)),.d (.i .i64 (v.f 5)),.d (.i .i64 (v.f 6)),.d (.i .i64 (v.f 7)),.d (.i .i64 (v.f 8)),.d (.i .i64 (v.f 9)),.d (.i .i64 (v.f 10)),.d (.i .i64 (v.f 11)),.d (.i .i64 (v.f 12)),.d (.i .i64 (v.f 13)),.d (.i .i64 (v.f 14)),.d (.i .i64 (v.f 15)),.d (.i .u8 what),.d (.i .u8 3),.d (.i .i64 look.key),.d (.i .i64 look.at_),.d (.i .i64 look.hops),.d (.b look.slow),.d (.b look.found),.d (.i .i64 look.code),.d (.s item.key),.d (.i .i64 item.value),.d (.i .i64 item.version),.d (.b item.gone),.d (.i .i64 owner),.sl 3 left.length 1,.d (.i .i64 code),.e0,.d (.b false)]],35⟩ mixed rfl rfl rfl ?_ ?_ ?_
 ·have d1:=Ds.mk [] (c0);refine wd BO [] [(0,2),(1,2),(0,4),(1,4),(3,4)] A1 A1 ?_;clear d1;with_reducible repeat' first|constructor|intro hc;try simp only[A3] at hc
  exact ⟨rfl,.inl rfl⟩
 ·have d1:=Ds.mk [] (c0);refine wd BO [] [(0,2),(1,2),(0,3)] A1 A1 ?_;clear d1;with_reducible repeat' first|constructor|intro hc;try simp only[A3] at hc
  exact ⟨rfl,.inr rfl⟩
 have d1:=Ds.mk [4,3] (c3);have d2:=Ds.mk [4,3,5,6] (c4);refine wd BO [6] [(1,0),(2,0)] A1 (AD @c1) ?_;clear d2 d1;with_reducible repeat' first|constructor|intro hc;try simp only[A3] at hc
 refine wd BO [] [(2,6),(3,6),(4,6),(5,6)] A1 A1 ?_;with_reducible repeat' first|constructor|intro hc;try simp only[A3] at hc
 refine ⟨_,_,rfl,rfl,?_⟩;simp [AE,A6,A5,A4,Job.d,Job.cells]
theorem Qq (v : View) (j : Job) (d : Int) (hb : v.base.length ≤ 1000) (hl : v.list.length ≤ 1000) (hn : j.left.length ≤ 100000) : Go.Gar.Fn Tryz.prog 46 [v.d,j.d,.i .i64 d] (.tup [(Az v j d).job.d,AW (Az v j d).asks,.b (Az v j d).own]):=by
 unfold Az
 cases h1 : AF v with
 | false => exact XW v j d hb hl hn h1
 | true =>
  rw [if_pos rfl]
  by_cases p1 : j.phase = 1
  ·rw [if_pos p1];exact Zk v j d hb hl hn h1 p1
  rw [if_neg p1]
  by_cases p2 : j.phase = 2
  ·rw [if_pos (.inl p2)];exact ZE v j d hb hl hn h1 p2
  by_cases p4 : j.phase = 4
  ·rw [if_pos (.inr p4)];exact ZD v j d hb hl hn h1 p4
  rw [if_neg (fun h => h.elim p2 p4)]
  by_cases p3 : j.phase = 3
  ·rw [if_pos p3]
   by_cases hs : d ∈ j.left
   ·exact ZG v j d hb hl hn h1 p3 hs
   ·exact Zc v j d hb hl hn h1 p3 hs
  ·rw [if_neg p3];exact Z5 v j d hb hl hn h1 ⟨p1,p2,p3,p4⟩
end Nd
end Go.Proofs.YtnahkfkljohjaaaGreatDoor
