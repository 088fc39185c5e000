/- Part 41 of the texts of this proof, put together by a program and made short.
Conditions: none; what each theorem asks stands in its own hypotheses. -/
import Derived.Test.YtnahkfkljohjaaaGreatDoorH25
import Derived.Test.YtnahkfkljohjaaaGreatDoorH32
import Derived.Ground.SlgfProg
import Derived.Lib.SliceRun
import Derived.Shelf.SlicesE.DeleteFunc
import Derived.Sort.Walk0
import Derived.KernelRfl
import Derived.RangeFuncIn
import Derived.OpenShut
import Derived.ProofKit
import Derived.CallsIn
import Derived.RangeFuncLeaves
import Derived.OrdersIn
import Derived.TacticsIn
import Derived.ChangeKeysEq
import Derived.Laws.AppendOwn
import Derived.Laws.OwnMore
import Derived.Laws.MakeOwn
import Derived.Laws.Rows
import Derived.Laws.Cells
import Derived.Laws.Tables
import Derived.Laws.CopyRow
import Derived.Laws.Strings
import Derived.Laws.IdiomStrings
import Derived.Laws.BytesArg
import Derived.Sort.Grow
import Derived.Laws.Cover3
import Derived.RecoverIn
import Derived.Test.YtnahkfkljohjaaaGreatDoorProg
set_option linter.unusedSimpArgs false
set_option linter.unusedVariables false
set_option linter.unnecessarySimpa false
set_option maxHeartbeats 40000000
namespace Go.Proofs.YtnahkfkljohjaaaGreatDoor
namespace Nd
open Go.Gar
open Wi (A8 B0 Ak AX B8 mC)
set_option maxRecDepth 4000
abbrev Jt : List Nat:=[0,1,2,3,15,23]
abbrev jD (v : View) (j : Job) : List AC:=[.c (jC v j (.d (.is j.left)) .e0 false)]
abbrev jO (v : View) (j : Job) : List AC:=[.c (jC v j (.sl 1 j.left.length 1) .e0 false),.a (.is j.left)]
abbrev jT : List AC:=[.c [.ptr 0 0 37],.c [.ptr 0 20 37]]
theorem VK (v : View) (j : Job) (m : A8) (hb : v.base.length ≤ 1000) (hl : v.list.length ≤ 1000) (hm : Ab m) : B4 Tryz.prog 166 [.d m.d,.ptr 2 0 1,.ptr 1 0 1] (jD v j ++ jT) (.tup []) (jE v (if m.kind = 10 ∧ m.src = j.look.at_ then BU v ⟨j.what,j.phase,HW v j.look m,j.item,j.owner,j.left,j.code⟩ else ⟨j,[],false⟩) ++ jT):=by
 obtain ⟨what,phase,look,item,owner,left,code⟩:=j
 obtain ⟨key,at_,hops,slow,found,lcode⟩:=look
 have c1:=Z4 v ⟨key,at_,hops,slow,found,lcode⟩ m hb hl hm
 generalize HW v ⟨key,at_,hops,slow,found,lcode⟩ m = q at *
 have c2:=JH v ⟨what,phase,q,item,owner,left,code⟩ (by omega)
 dsimp only
 generalize BU v ⟨what,phase,q,item,owner,left,code⟩ = r at *
 refine A7 AB Tryz.func166 rfl rfl (Nat.le_of_ble_eq_true rfl) ?_
 unfold Wi.A8.d Wi.A8.cells at *
 unfold View.d View.cells Look.d Look.cells at c1
 unfold jD jT jE jC at *
 simp only [List.cons_append,List.nil_append]
 by_cases h1 : m.kind = 10
 ·have f1:=AA h1
  by_cases h2 : m.src = at_
  ·have f2:=AA h2
   rw [if_pos ⟨h1,h2⟩]
   have d1:=Ds.mk [0] (c2);refine wd [0,1,2,3,16] [] [] (Ao f1 f2) (AD @c1) ?_;clear d1;with_reducible repeat' first|constructor|intro hc;try simp only[A3] at hc
   exact ⟨⟨[],[.c (jC v r.job (.d (.is r.job.left)) (.d (AW r.asks)) r.own),.c [.ptr 0 0 37],.c [.ptr 0 20 37]],_⟩,(A2.ck rfl),Nat.le_of_ble_eq_true rfl,_,_,rfl,rfl,rfl,rfl⟩
  ·have f2:=eq_false' h2
   rw [if_neg (fun h => h2 h.2)]
   refine wd [0,1,2,3,16] [] [] (Ao f1 f2) A1 ?_;with_reducible repeat' first|constructor|intro hc;try simp only[A3] at hc
   exact ⟨⟨[],[.c (jC v ⟨what,phase,⟨key,at_,hops,slow,found,lcode⟩,item,owner,left,code⟩ (.d (.is left)) (.d (AW [])) false),.c [.ptr 0 0 37],.c [.ptr 0 20 37]],_⟩,(A2.trans' (A2.Ix 0 35 (.sl 15 []) rfl rfl rfl rfl (by simp [A4])) (A2.ck rfl) (Nat.le_of_ble_eq_true rfl)),Nat.le_of_ble_eq_true rfl,_,_,rfl,rfl,rfl,rfl⟩
 ·have f1:=eq_false' h1
  rw [if_neg (fun h => h1 h.1)]
  refine wd [0,1,2,3,16] [] [] (AD f1) A1 ?_;with_reducible repeat' first|constructor|intro hc;try simp only[A3] at hc
  exact ⟨⟨[],[.c (jC v ⟨what,phase,⟨key,at_,hops,slow,found,lcode⟩,item,owner,left,code⟩ (.d (.is left)) (.d (AW [])) false),.c [.ptr 0 0 37],.c [.ptr 0 20 37]],_⟩,(A2.trans' (A2.Ix 0 35 (.sl 15 []) rfl rfl rfl rfl (by simp [A4])) (A2.ck rfl) (Nat.le_of_ble_eq_true rfl)),Nat.le_of_ble_eq_true rfl,_,_,rfl,rfl,rfl,rfl⟩
theorem UE (v : View) (j : Job) (m : A8) (hm : Ab m) : B4 Tryz.prog 168 [.d m.d,.ptr 2 0 1,.ptr 1 0 1] (jD v j ++ jT) (.tup []) (jE v (if m.kind = 7 ∧ m.src = j.owner then Ev v.id j j.owner m.list else ⟨j,[],false⟩) ++ jT):=by
 obtain ⟨what,phase,look,item,owner,left,code⟩:=j
 have c2:=RS v ⟨what,phase,look,item,owner,left,code⟩ owner m.list (by unfold Ab at hm;omega)
 dsimp only
 generalize Ev v.id ⟨what,phase,look,item,owner,left,code⟩ owner m.list = r at *
 refine A7 AB Tryz.func168 rfl rfl (Nat.le_of_ble_eq_true rfl) ?_
 unfold Wi.A8.d Wi.A8.cells at *
 unfold jD jT jE jC at *
 simp only [List.cons_append,List.nil_append]
 by_cases h1 : m.kind = 7
 ·have f1:=AA h1
  by_cases h2 : m.src = owner
  ·have f2:=AA h2
   rw [if_pos ⟨h1,h2⟩]
   have d1:=Ds.mk [0] (c2);refine wd [0,1,2,3,15] [] [] (Ao f1 f2) A1 ?_;clear d1;with_reducible repeat' first|constructor|intro hc;try simp only[A3] at hc
   exact ⟨⟨[],[.c (jC v r.job (.d (.is r.job.left)) (.d (AW r.asks)) r.own),.c [.ptr 0 0 37],.c [.ptr 0 20 37]],_⟩,(A2.ck rfl),Nat.le_of_ble_eq_true rfl,_,_,rfl,rfl,rfl,rfl⟩
  ·have f2:=eq_false' h2
   rw [if_neg (fun h => h2 h.2)]
   refine wd [0,1,2,3,15] [] [] (Ao f1 f2) A1 ?_;with_reducible repeat' first|constructor|intro hc;try simp only[A3] at hc
   exact ⟨⟨[],[.c (jC v ⟨what,phase,look,item,owner,left,code⟩ (.d (.is left)) (.d (AW [])) false),.c [.ptr 0 0 37],.c [.ptr 0 20 37]],_⟩,(A2.trans' (A2.Ix 0 35 (.sl 15 []) rfl rfl rfl rfl (by simp [A4])) (A2.ck rfl) (Nat.le_of_ble_eq_true rfl)),Nat.le_of_ble_eq_true rfl,_,_,rfl,rfl,rfl,rfl⟩
 ·have f1:=eq_false' h1
  rw [if_neg (fun h => h1 h.1)]
  refine wd [0,1,2,3,15] [] [] (AD f1) A1 ?_;with_reducible repeat' first|constructor|intro hc;try simp only[A3] at hc
  exact ⟨⟨[],[.c (jC v ⟨what,phase,look,item,owner,left,code⟩ (.d (.is left)) (.d (AW [])) false),.c [.ptr 0 0 37],.c [.ptr 0 20 37]],_⟩,(A2.trans' (A2.Ix 0 35 (.sl 15 []) rfl rfl rfl rfl (by simp [A4])) (A2.ck rfl) (Nat.le_of_ble_eq_true rfl)),Nat.le_of_ble_eq_true rfl,_,_,rfl,rfl,rfl,rfl⟩
theorem UM (v : View) (j : Job) (m : A8) (h : m.kind ≠ 11 ∨ m.src ∉ j.left) (hn : j.left.length ≤ 100000) : B4 Tryz.prog 169 [.d m.d,.ptr 1 0 1] (jD v j ++ jT) (.tup []) (jE v ⟨if m.kind = 11 then Bz j m.src m.code else j,[],false⟩ ++ jT):=by
 refine A7 AB Tryz.func169 rfl rfl (Nat.le_of_ble_eq_true rfl) ?_
 by_cases h1 : m.kind = 11
 ·have h2 : m.src ∉ j.left:=h.resolve_left (fun e => e h1)
  have c2:=Rj v j m.src m.code h2 hn
  rw [if_pos h1]
  generalize Bz j m.src m.code = q at *
  unfold Wi.A8.d Wi.A8.cells at *
  unfold jD jT jE jC at *
  simp only [List.cons_append,List.nil_append]
  have f1:=AA h1
  have d1:=Ds.mk [0] (c2);refine wk [0,1,2,5] [] (AD f1) A1 ?_;clear d1;with_reducible repeat' first|constructor|intro hc;try simp only[A3] at hc
  exact ⟨⟨[],[.c (jC v q (.d (.is q.left)) (.d (AW [])) false),.c [.ptr 0 0 37],.c [.ptr 0 20 37]],_⟩,(A2.ck rfl),Nat.le_of_ble_eq_true rfl,_,_,rfl,rfl,rfl,rfl⟩
 ·have f1:=eq_false' h1
  rw [if_neg h1]
  unfold Wi.A8.d Wi.A8.cells at *
  unfold jD jT jE jC at *
  simp only [List.cons_append,List.nil_append]
  refine wk [0,1,2,5] [] (AD f1) A1 ?_;with_reducible repeat' first|constructor|intro hc;try simp only[A3] at hc
  exact ⟨⟨[],[.c (jC v j (.d (.is j.left)) (.d (AW [])) false),.c [.ptr 0 0 37],.c [.ptr 0 20 37]],_⟩,(A2.trans' (A2.Ix 0 35 (.sl 15 []) rfl rfl rfl rfl (by simp [A4])) (A2.ck rfl) (Nat.le_of_ble_eq_true rfl)),Nat.le_of_ble_eq_true rfl,_,_,rfl,rfl,rfl,rfl⟩
theorem Si (v : View) (j : Job) (m : A8) (h : m.kind = 11 ∧ m.src ∈ j.left) (hn : j.left.length ≤ 100000) : B4 Tryz.prog 169 [.d m.d,.ptr 2 0 1] (jO v j ++ jT) (.tup []) (jE v ⟨if m.kind = 11 then Bz j m.src m.code else j,[],false⟩ ++ [.gone] ++ jT):=by
 refine A7 AB Tryz.func169 rfl rfl (Nat.le_of_ble_eq_true rfl) ?_
 obtain ⟨h1,h2⟩:=h
 have c2:=OI v j m.src m.code h2 hn
 rw [if_pos h1]
 generalize Bz j m.src m.code = q at *
 unfold Wi.A8.d Wi.A8.cells at *
 unfold jO jT jE jC at *
 simp only [List.cons_append,List.nil_append]
 simp only [List.cons_append,List.nil_append] at c2
 have f1:=AA h1
 have d1:=Ds.mk [0,1] (c2);refine wk [0,1,2,5] [] (AD f1) A1 ?_;clear d1;with_reducible repeat' first|constructor|intro hc;try simp only[A3] at hc
 exact ⟨⟨[],[.c (jC v q (.d (.is q.left)) (.d (AW [])) false),.gone,.c [.ptr 0 0 37],.c [.ptr 0 20 37]],_⟩,(A2.ck rfl),Nat.le_of_ble_eq_true rfl,_,_,rfl,rfl,rfl,rfl⟩
theorem VP (v : View) (j : Job) (m : A8) : B4 Tryz.prog 171 [.d m.d,.ptr 2 0 1,.ptr 1 0 1] (jD v j ++ jT) (.tup []) (jE v (if m.kind = 12 ∧ m.src = j.owner then ⟨BG (BH ⟨j.what,j.phase,j.look,if m.code = 0 then m.item else j.item,j.owner,j.left,j.code⟩ m.code),[],false⟩ else ⟨j,[],false⟩) ++ jT):=by
 obtain ⟨what,phase,look,item,owner,left,code⟩:=j
 dsimp only
 refine A7 AB Tryz.func171 rfl rfl (Nat.le_of_ble_eq_true rfl) ?_
 have hv:=F7 v ⟨what,phase,look,if m.code = 0 then m.item else item,owner,left,m.code⟩ .e0 false rfl
 unfold Wi.A8.d Wi.A8.cells at *
 unfold jD jT jE jC at *
 simp only [List.cons_append,List.nil_append]
 by_cases h1 : m.kind = 12
 ·have f1:=AA h1
  by_cases h2 : m.src = owner
  ·have f2:=AA h2
   rw [if_pos ⟨h1,h2⟩]
   by_cases h3 : m.code = 0
   ·have f3:=AA h3
    rw [if_pos h3] at *
    have d1:=Ds.mk [0] (hv);refine wd Jt [] [] (Bo f1 f2 f3) A1 ?_;clear d1;with_reducible repeat' first|constructor|intro hc;try simp only[A3] at hc
    exact ⟨⟨[],[.c (jC v ⟨what,5,look,m.item,owner,[],m.code⟩ (.d (.is [])) (.d (AW [])) false),.c [.ptr 0 0 37],.c [.ptr 0 20 37]],_⟩,(A2.trans' (A2.Ix 0 35 (.sl 15 []) rfl rfl rfl rfl (by simp [A4])) (A2.ck rfl) (Nat.le_of_ble_eq_true rfl)),Nat.le_of_ble_eq_true rfl,_,_,rfl,rfl,rfl,rfl⟩
   ·have f3:=eq_false' h3
    rw [if_neg h3] at *
    have d1:=Ds.mk [0] (hv);refine wd Jt [] [] (Bo f1 f2 f3) A1 ?_;clear d1;with_reducible repeat' first|constructor|intro hc;try simp only[A3] at hc
    exact ⟨⟨[],[.c (jC v ⟨what,5,look,item,owner,[],m.code⟩ (.d (.is [])) (.d (AW [])) false),.c [.ptr 0 0 37],.c [.ptr 0 20 37]],_⟩,(A2.trans' (A2.Ix 0 35 (.sl 15 []) rfl rfl rfl rfl (by simp [A4])) (A2.ck rfl) (Nat.le_of_ble_eq_true rfl)),Nat.le_of_ble_eq_true rfl,_,_,rfl,rfl,rfl,rfl⟩
  ·have f2:=eq_false' h2
   rw [if_neg (fun h => h2 h.2)]
   refine wd Jt [] [] (Ao f1 f2) A1 ?_;with_reducible repeat' first|constructor|intro hc;try simp only[A3] at hc
   exact ⟨⟨[],[.c (jC v ⟨what,phase,look,item,owner,left,code⟩ (.d (.is left)) (.d (AW [])) false),.c [.ptr 0 0 37],.c [.ptr 0 20 37]],_⟩,(A2.trans' (A2.Ix 0 35 (.sl 15 []) rfl rfl rfl rfl (by simp [A4])) (A2.ck rfl) (Nat.le_of_ble_eq_true rfl)),Nat.le_of_ble_eq_true rfl,_,_,rfl,rfl,rfl,rfl⟩
 ·have f1:=eq_false' h1
  rw [if_neg (fun h => h1 h.1)]
  refine wd Jt [] [] (AD f1) A1 ?_;with_reducible repeat' first|constructor|intro hc;try simp only[A3] at hc
  exact ⟨⟨[],[.c (jC v ⟨what,phase,look,item,owner,left,code⟩ (.d (.is left)) (.d (AW [])) false),.c [.ptr 0 0 37],.c [.ptr 0 20 37]],_⟩,(A2.trans' (A2.Ix 0 35 (.sl 15 []) rfl rfl rfl rfl (by simp [A4])) (A2.ck rfl) (Nat.le_of_ble_eq_true rfl)),Nat.le_of_ble_eq_true rfl,_,_,rfl,rfl,rfl,rfl⟩
theorem Oj (v : View) (j : Job) (d : Int) : B4 Tryz.prog 172 [.d (.i .i64 d),.ptr 2 0 1,.ptr 1 0 1] (jD v j ++ jT) (.tup []) (jE v (if j.owner = d then ⟨BG (BH j 210),[],false⟩ else ⟨j,[],false⟩) ++ jT):=by
 obtain ⟨what,phase,look,item,owner,left,code⟩:=j
 dsimp only
 refine A7 AB Tryz.func172 rfl rfl (Nat.le_of_ble_eq_true rfl) ?_
 have hv:=F7 v ⟨what,phase,look,item,owner,left,210⟩ .e0 false rfl
 unfold jD jT jE jC at *
 simp only [List.cons_append,List.nil_append]
 by_cases h1 : owner = d
 ·have f1:=AA h1
  rw [if_pos h1]
  have d1:=Ds.mk [0] (hv);refine wk [0,1,2,9] [] (AD f1) A1 ?_;clear d1;with_reducible repeat' first|constructor|intro hc;try simp only[A3] at hc
  exact ⟨⟨[],[.c (jC v ⟨what,5,look,item,owner,[],210⟩ (.d (.is [])) (.d (AW [])) false),.c [.ptr 0 0 37],.c [.ptr 0 20 37]],_⟩,(A2.trans' (A2.Ix 0 35 (.sl 15 []) rfl rfl rfl rfl (by simp [A4])) (A2.ck rfl) (Nat.le_of_ble_eq_true rfl)),Nat.le_of_ble_eq_true rfl,_,_,rfl,rfl,rfl,rfl⟩
 ·have f1:=eq_false' h1
  rw [if_neg h1]
  refine wk [0,1,2,9] [] (AD f1) A1 ?_;with_reducible repeat' first|constructor|intro hc;try simp only[A3] at hc
  exact ⟨⟨[],[.c (jC v ⟨what,phase,look,item,owner,left,code⟩ (.d (.is left)) (.d (AW [])) false),.c [.ptr 0 0 37],.c [.ptr 0 20 37]],_⟩,(A2.trans' (A2.Ix 0 35 (.sl 15 []) rfl rfl rfl rfl (by simp [A4])) (A2.ck rfl) (Nat.le_of_ble_eq_true rfl)),Nat.le_of_ble_eq_true rfl,_,_,rfl,rfl,rfl,rfl⟩
theorem VC (v : View) (j : Job) (d : Int) (hb : v.base.length ≤ 1000) (hl : v.list.length ≤ 1000) : B4 Tryz.prog 173 [.d (.i .i64 d),.ptr 2 0 1,.ptr 1 0 1] (jD v j ++ jT) (.tup []) (jE v (if j.look.at_ = d then BU v ⟨j.what,j.phase,PR v j.look,j.item,j.owner,j.left,j.code⟩ else ⟨j,[],false⟩) ++ jT):=by
 obtain ⟨what,phase,look,item,owner,left,code⟩:=j
 obtain ⟨key,at_,hops,slow,found,lcode⟩:=look
 have c1:=ZI v ⟨key,at_,hops,slow,found,lcode⟩ hb hl
 generalize PR v ⟨key,at_,hops,slow,found,lcode⟩ = q at *
 have c2:=JH v ⟨what,phase,q,item,owner,left,code⟩ (by omega)
 dsimp only
 generalize BU v ⟨what,phase,q,item,owner,left,code⟩ = r at *
 refine A7 AB Tryz.func173 rfl rfl (Nat.le_of_ble_eq_true rfl) ?_
 unfold View.d View.cells Look.d Look.cells at c1
 unfold jD jT jE jC at *
 simp only [List.cons_append,List.nil_append]
 by_cases h1 : at_ = d
 ·have f1:=AA h1
  rw [if_pos h1]
  have d1:=Ds.mk [0] (c2);refine wd [0,1,2,10] [] [] (AD f1) (AD @c1) ?_;clear d1;with_reducible repeat' first|constructor|intro hc;try simp only[A3] at hc
  exact ⟨⟨[],[.c (jC v r.job (.d (.is r.job.left)) (.d (AW r.asks)) r.own),.c [.ptr 0 0 37],.c [.ptr 0 20 37]],_⟩,(A2.ck rfl),Nat.le_of_ble_eq_true rfl,_,_,rfl,rfl,rfl,rfl⟩
 ·have f1:=eq_false' h1
  rw [if_neg h1]
  refine wd [0,1,2,10] [] [] (AD f1) A1 ?_;with_reducible repeat' first|constructor|intro hc;try simp only[A3] at hc
  exact ⟨⟨[],[.c (jC v ⟨what,phase,⟨key,at_,hops,slow,found,lcode⟩,item,owner,left,code⟩ (.d (.is left)) (.d (AW [])) false),.c [.ptr 0 0 37],.c [.ptr 0 20 37]],_⟩,(A2.trans' (A2.Ix 0 35 (.sl 15 []) rfl rfl rfl rfl (by simp [A4])) (A2.ck rfl) (Nat.le_of_ble_eq_true rfl)),Nat.le_of_ble_eq_true rfl,_,_,rfl,rfl,rfl,rfl⟩
theorem VR (v : View) (j : Job) (d : Int) (h : d ∉ j.left) (hn : j.left.length ≤ 100000) : B4 Tryz.prog 175 [.d (.i .i64 d),.ptr 1 0 1] (jD v j ++ jT) (.tup []) (jE v ⟨Bz j d 210,[],false⟩ ++ jT):=by
 refine A7 AB Tryz.func175 rfl rfl (Nat.le_of_ble_eq_true rfl) ?_
 have c2:=Rj v j d 210 h hn
 generalize Bz j d 210 = q at *
 unfold jD jT jE jC at *
 simp only [List.cons_append,List.nil_append]
 have d1:=Ds.mk [0] (c2);refine wk [0,1] [] A1 A1 ?_;clear d1;with_reducible repeat' first|constructor|intro hc;try simp only[A3] at hc
 exact ⟨⟨[],[.c (jC v q (.d (.is q.left)) (.d (AW [])) false),.c [.ptr 0 0 37],.c [.ptr 0 20 37]],_⟩,(A2.ck rfl),Nat.le_of_ble_eq_true rfl,_,_,rfl,rfl,rfl,rfl⟩
theorem TG (v : View) (j : Job) (d : Int) (h : d ∈ j.left) (hn : j.left.length ≤ 100000) : B4 Tryz.prog 175 [.d (.i .i64 d),.ptr 2 0 1] (jO v j ++ jT) (.tup []) (jE v ⟨Bz j d 210,[],false⟩ ++ [.gone] ++ jT):=by
 refine A7 AB Tryz.func175 rfl rfl (Nat.le_of_ble_eq_true rfl) ?_
 have c2:=OI v j d 210 h hn
 generalize Bz j d 210 = q at *
 unfold jO jT jE jC at *
 simp only [List.cons_append,List.nil_append]
 simp only [List.cons_append,List.nil_append] at c2
 have d1:=Ds.mk [0,1] (c2);refine wk [0,1] [] A1 A1 ?_;clear d1;with_reducible repeat' first|constructor|intro hc;try simp only[A3] at hc
 exact ⟨⟨[],[.c (jC v q (.d (.is q.left)) (.d (AW [])) false),.gone,.c [.ptr 0 0 37],.c [.ptr 0 20 37]],_⟩,(A2.ck rfl),Nat.le_of_ble_eq_true rfl,_,_,rfl,rfl,rfl,rfl⟩
abbrev I9 : List Nat:=[0,1,2,3,4,5,6,7,8,9,10,11,28,36]
theorem aF (v : View) (j : Job) (m : A8) (hb : v.base.length ≤ 1000) (hl : v.list.length ≤ 1000) (hn : j.left.length ≤ 100000) (hm : Ab m) (h1 : AF v = true) (h2 : m.right = true) (h3 : m.dst = v.id) (h4 : j.phase = 3) (h : m.kind = 11 ∧ m.src ∈ j.left) : Go.Gar.Fn Tryz.prog 41 [v.d,j.d,m.d] (.tup [(Bz j m.src m.code).d,AW [],.b false]):=by
 have h0 : j.left ≠ []:=fun e => by have:=h.2;rw [e] at this;cases this
 have c0:=OP j (by omega) h0
 have c1:=Am v hb hl
 have c2:=Wi.Cc m (by unfold Ab at hm;omega)
 have c3:=PE v j
 have c4:=Si v j m h hn
 rw [if_pos h.1] at c4
 generalize Bz j m.src m.code = r at *
 obtain ⟨what,phase,look,item,owner,left,code⟩:=j
 dsimp only at h4
 subst h4
 unfold View.d View.cells at c1
 unfold Wi.A8.d Wi.A8.cells at c2 c4
 unfold Job.d Job.cells FW at c0
 refine A0 AB Tryz.func41 rfl rfl (Nat.le_of_ble_eq_true rfl) ?_
 unfold View.d View.cells Job.d Job.cells Wi.A8.d Wi.A8.cells
 rw [h1] at c1
 rw [h2] at c2
 have f1:=AA h3
 unfold jO jT jE at c4
 simp only [List.cons_append,List.nil_append] at c4
 unfold jC at *
 unfold Yr at *
 dsimp only at c0 c3 c4 ⊢
 refine wd I9 [1] [] A1 A1 ?_;with_reducible repeat' first|constructor|intro hc;try simp only[A3] at hc
 refine Na T.get 2 4 4 5 ⟨[(0,.d (.agg [.i .i64 v.id,.is v.base,.is v.list,.i .i64 v.pred,.i .i64 (v.f 0),.i .i64 (v.f 1),.i .i64 (v.f 2),.i .i64 (v.f 3),.i .i64 (v.f 4),.i .i64 (v.f 5),.i .i64 (v.f 6),.i .i64 (v.f 7),.i .i64 (v.f 8),.i .i64 (v.f 9),.i .i64 (v.f 10),.i .i64 (v.f 11),.i .i64 (v.f 12),.i .i64 (v.f 13),.i .i64 (v.f 14),.i .i64 (v.f 15)])),(1,.d (.agg [.i .u8 what,.i .u8 3,.i .i64 look.key,.i .i64 look.at_,.i .i64 look.hops,.b look.slow,.b look.found,.i .i64 look.code,.s item.key,.i .i64 item.value,.i .i64 item.version,.b item.gone,.i .i64 owner,.is left,.i .i64 code])),(2,.d (.agg [.i .u8 m.kind,.i .i64 m.call,.i .i64 m.src,.i .i64 m.dst,.i .i64 m.key,.b m.slow,.b m.done,.i .i64 m.place,.i .i64 m.pred,.is m.list,.s m.item.key,.i .i64 m.item.value,.i .i64 m.item.version,.b m.item.gone,.i .i64 m.code])),(3,.ptr 0 0 20),(4,.ptr 1 0 15),(5,.ptr 2 0 15),(6,.ptr 3 0 15),(7,.e0),(8,.d (.b false)),(9,.ptr 5 0 37)],[.c [.d (.i .i64 v.id),.d (.is v.base),.d (.is v.list),.d (.i .i64 v.pred),.d (.i .i64 (v.f 0)),.d (.i .i64 (v.f 1)),.d (.i .i64 (v.f 2)),.d (.i .i64 (v.f 3)),.d (.i .i64 (v.f 4)),.d (.i .i64 (v.f 5)),.d (.i .i64 (v.f 6)),.d (.i .i64 (v.f 7)),.d (.i .i64 (v.f 8)),.d (.i .i64 (v.f 9)),.d (.i .i64 (v.f 10)),.d (.i .i64 (v.f 11)),.d (.i .i64 (v.f 12)),.d (.i .i64 (v.f 13)),.d (.i .i64 (v.f 14)),.d (.i .i64 (v.f 15))],.c [.d (.i .u8 what),.d (.i .u8 3),.d (.i .i64 look.key),.d (.i .i64 look.at_),.d (.i .i64 look.hops),.d (.b look.slow),.d (.b look.found),.d (.i .i64 look.code),.d (.s item.key),.d (.i .i64 item.value),.d (.i .i64 item.version),.d (.b item.gone),.d (.i .i64 owner),.d (.is left),.d (.i .i64 code)],.c [.d (.i .u8 m.kind),.d (.i .i64 m.call),.d (.i .i64 m.src),.d (.i .i64 m.dst),.d (.i .i64 m.key),.d (.b m.slow),.d (.b m.done),.d (.i .i64 m.place),.d (.i .i64 m.pred),.d (.is m.list),.d (.s m.item.key),.d (.i .i64 m.item.value),.d (.i .i64 m.item.version),.d (.b m.item.gone),.d (.i .i64 m.code)],.c [.d (.i .u8 0),.d (.i .u8 0),.d (.i .i64 0),.d (.i .i64 0),.d (.i .i64 0),.d (.b false),.d (.b false),.d (.i .i64 0),.d (.s []),.d (.i .i64 0),.d (.i .i64 0),.d (.b false),.d (.i .i64 0),.e0,.d (.i .i64 0)],.a (.is left),.c [.d (.i .i64 v.id),.d (.is v.base),.d (.is v.list),.d (.i .i64 v.pred),.d (.i .i64 (v.f 0)),.d (.i .i64 (v.f 1)),.d (.i .i64 (v.f 2)),.d (.i .i64 (v.f 3)),.d (.i .i64 (v.f 4)),.d (.i .i64 (v.f 5)),.d (.i .i64 (v.f 6)),.d (.i .i64 (v.f 7)),.d (.i .i64 (v.f 8)),.d (.i .i64 (v.f 9)),.d (.i .i64 (v.f 10)),.d (.i .i64 (v.f 11)),.d (.i .i64 (v.f 12)),.d (.i .i64 (v.f 13)),.d (.i .i64 (v.f 14)),.d (.i .i64 (v.f 15)),.d (.i .u8 what),.d (.i .u8 3),.d (.i .i64 look.key),.d (.i .i64 look.at_),.d (.i .i64 look.hops),.d (.b look.slow),.d (.b look.found),.d (.i .i64 look.code),.d (.s item.key),.d (.i .i64 item.value),.d (.i .i64 item.version),.d (.b item.gone),.d (.i .i64 owner),.sl 4 left.length 1,.d (.i .i64 code),.e0,.d (.b false)]],46⟩ mixed rfl rfl rfl ?_ ?_ ?_
 ·have d1:=Ds.mk [] (c0);refine wd I9 [] [(0,2),(1,2),(0,4),(1,4),(3,4)] A1 A1 ?_;clear d1;with_reducible repeat' first|constructor|intro hc;try simp only[A3] at hc
  exact ⟨rfl,.inl rfl⟩
 ·have d1:=Ds.mk [] (c0);refine wd I9 [] [(0,2),(1,2),(0,3)] A1 A1 ?_;clear d1;with_reducible repeat' first|constructor|intro hc;try simp only[A3] at hc
  exact ⟨rfl,.inr rfl⟩
 have d1:=Ds.mk [5,4] (c3);have d2:=Ds.mk [5,4,6,7] (c4);refine wd I9 [6] [(1,0),(2,0)] (AD f1) (Ao @c1 @c2) ?_;clear d2 d1;with_reducible repeat' first|constructor|intro hc;try simp only[A3] at hc
 refine wd I9 [] [(2,6),(3,6),(4,6),(5,6)] A1 A1 ?_;with_reducible repeat' first|constructor|intro hc;try simp only[A3] at hc
 refine ⟨_,_,rfl,rfl,?_⟩;simp [AE,A6,A5,A4,Job.d,Job.cells]
end Nd
end Go.Proofs.YtnahkfkljohjaaaGreatDoor
