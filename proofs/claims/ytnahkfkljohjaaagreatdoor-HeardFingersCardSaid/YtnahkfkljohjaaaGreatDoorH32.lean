/- Part 32 of the texts of this proof, put together by a program and made short.
Conditions: none; what each theorem asks stands in its own hypotheses. -/
import Derived.Test.YtnahkfkljohjaaaGreatDoorH31
import Derived.Sort.Walk0
import Derived.Ground.SlgfProg
import Derived.Lib.SliceRun
import Derived.Shelf.SlicesE.DeleteFunc
import Derived.KernelRfl
import Derived.RangeFuncIn
import Derived.OpenShut
import Derived.ProofKit
import Derived.CallsIn
import Derived.RangeFuncLeaves
import Derived.OrdersIn
import Derived.TacticsIn
import Derived.ChangeKeysEq
import Derived.Laws.AppendOwn
import Derived.Laws.OwnMore
import Derived.Laws.MakeOwn
import Derived.Laws.Rows
import Derived.Laws.Cells
import Derived.Laws.Tables
import Derived.Laws.CopyRow
import Derived.Laws.Strings
import Derived.Laws.IdiomStrings
import Derived.Laws.BytesArg
import Derived.Sort.Grow
import Derived.Laws.Cover3
import Derived.RecoverIn
import Derived.Test.YtnahkfkljohjaaaGreatDoorProg
set_option linter.unusedSimpArgs false
set_option linter.unusedVariables false
set_option linter.unnecessarySimpa false
set_option maxHeartbeats 40000000
namespace Go.Proofs.YtnahkfkljohjaaaGreatDoor
namespace Nd
open Go.Gar
open Wi (A8 B0 Ak AX B8 mC)
set_option maxRecDepth 4000
abbrev Ex : List Nat:=[0,2,3,4,13,26,38,50,56,85,101]
abbrev jE (v : View) (c : JC) : List AC:=[.c (jC v c.job (.d (.is c.job.left)) (.d (AW c.asks)) c.own)]
theorem JH (v : View) (j : Job) (hn : v.list.length ≤ 1048576) : B4 Tryz.prog 95 [.ptr 0 0 37] [.c (jC v j (.d (.is j.left)) .e0 false)] (.tup []) (jE v (BU v j)):=by
 obtain ⟨what,phase,⟨key,at_,hops,slow,found,code⟩,item,owner,left,jc⟩:=j
 have hA : PS ⟨key,at_,hops,slow,found,code⟩ = PS ⟨key,at_,hops,slow,found,code⟩:=rfl
 generalize hq : PS ⟨key,at_,hops,slow,found,code⟩ = q at hA
 refine A7 AB Tryz.func95 rfl rfl (Nat.le_of_ble_eq_true rfl) ?_
 clear hA
 generalize hj : BU v ⟨what,phase,⟨key,at_,hops,slow,found,code⟩,item,owner,left,jc⟩ = r
 unfold BU at hj
 dsimp only at hj
 unfold jE
 by_cases h1 : code ≠ 0
 ·rw [if_pos h1] at hj
  subst hj
  have f1:=eq_false' h1
  have hv:=F7 v ⟨what,phase,⟨key,at_,hops,slow,found,code⟩,item,owner,left,code⟩ .e0 false rfl
  unfold jC at hv
  unfold jC
  have d1:=Ds.mk [0] (hv);have sc : No 3:=trivial;refine wd Ex [] [] (AD f1) A1 ?_;clear sc d1;with_reducible repeat' first|constructor|intro hc;try simp only[A3] at hc
  exact ⟨⟨[],[.c (jC v ⟨what,5,⟨key,at_,hops,slow,found,code⟩,item,owner,[],code⟩ (.d (.is [])) (.d (AW [])) false)],_⟩,(A2.trans' (A2.Ix 0 35 (.sl 15 []) rfl rfl rfl rfl (by simp [A4])) (A2.ck rfl) (Nat.le_of_ble_eq_true rfl)),Nat.le_of_ble_eq_true rfl,_,_,rfl,rfl,rfl,rfl⟩
 rw [if_neg h1] at hj
 have f1:=AA (Decidable.not_not.1 h1)
 by_cases h2 : found = false
 ·rw [if_pos h2,hq] at hj
  subst h2
  have c1:=Z2 ⟨key,at_,hops,slow,false,code⟩
  rw [hq] at c1
  obtain ⟨m,b⟩:=q
  unfold Look.d Look.cells at c1
  cases b with
  | true =>
   dsimp only at hj
   rw [if_pos rfl] at hj
   subst hj
   have c2:=NR v ⟨what,1,⟨key,at_,hops,slow,false,code⟩,item,owner,left,jc⟩ false m
   unfold jC at *
   unfold Wi.A8.d Wi.A8.cells at c1 c2
   have d1:=Ds.mk [0] (c2);have sc : No 3:=trivial;refine wd Ex [] [] (AD f1) (AD @c1) ?_;clear sc d1;with_reducible repeat' first|constructor|intro hc;try simp only[A3] at hc
   exact ⟨⟨[],[.c (jC v ⟨what,1,⟨key,at_,hops,slow,false,code⟩,item,owner,left,jc⟩ (.d (.is left)) (.d (AW [m])) false)],_⟩,(A2.ck rfl),Nat.le_of_ble_eq_true rfl,_,_,rfl,rfl,rfl,rfl⟩
  | false =>
   dsimp only at hj
   rw [if_neg (by decide)] at hj
   subst hj
   unfold jC at *
   unfold Wi.A8.d Wi.A8.cells at c1
   have sc : No 3:=trivial;refine wd Ex [] [] (AD f1) (AD @c1) ?_;clear sc;with_reducible repeat' first|constructor|intro hc;try simp only[A3] at hc
   exact ⟨⟨[],[.c (jC v ⟨what,1,⟨key,at_,hops,slow,false,code⟩,item,owner,left,jc⟩ (.d (.is left)) (.d (AW [])) false)],_⟩,(A2.trans' (A2.Ix 0 35 (.sl 15 []) rfl rfl rfl rfl (by simp [A4])) (A2.ck rfl) (Nat.le_of_ble_eq_true rfl)),Nat.le_of_ble_eq_true rfl,_,_,rfl,rfl,rfl,rfl⟩
 rw [if_neg h2] at hj
 have h3 : found = true:=by cases found <;> simp_all
 subst h3
 by_cases h4 : what = 1
 ·rw [if_pos h4] at hj
  subst hj
  have f2:=AA h4
  have hv:=F7 v ⟨what,phase,⟨key,at_,hops,slow,true,code⟩,item,at_,left,0⟩ .e0 false rfl
  unfold jC at hv
  unfold jC
  have d1:=Ds.mk [0] (hv);have sc : No 3:=trivial;refine wd Ex [] [] (Ao f1 f2) A1 ?_;clear sc d1;with_reducible repeat' first|constructor|intro hc;try simp only[A3] at hc
  exact ⟨⟨[],[.c (jC v ⟨what,5,⟨key,at_,hops,slow,true,code⟩,item,at_,[],0⟩ (.d (.is [])) (.d (AW [])) false)],_⟩,(A2.trans' (A2.Ix 0 35 (.sl 15 []) rfl rfl rfl rfl (by simp [A4])) (A2.ck rfl) (Nat.le_of_ble_eq_true rfl)),Nat.le_of_ble_eq_true rfl,_,_,rfl,rfl,rfl,rfl⟩
 rw [if_neg h4] at hj
 have f2:=eq_false' h4
 by_cases h5 : what = 2
 ·have f3:=AA h5
  by_cases h6 : at_ = v.id
  ·rw [if_pos ⟨h5,h6⟩] at hj
   have f4:=AA h6
   have hp:=RS v ⟨what,phase,⟨key,at_,hops,slow,true,code⟩,item,at_,left,jc⟩ at_ v.list hn
   rw [hj] at hp
   unfold jC at *
   have d1:=Ds.mk [0] (hp);have sc : No 3:=trivial;refine wd Ex [] [] (GD f1 f2 f3 f4) A1 ?_;clear sc d1;with_reducible repeat' first|constructor|intro hc;try simp only[A3] at hc
   exact ⟨⟨[],[.c (jC v r.job (.d (.is r.job.left)) (.d (AW r.asks)) r.own)],_⟩,(A2.ck rfl),Nat.le_of_ble_eq_true rfl,_,_,rfl,rfl,rfl,rfl⟩
  ·rw [if_neg (fun h => h6 h.2),if_pos h5] at hj
   subst hj
   have f4:=eq_false' h6
   have c2:=B4.arg (NR v ⟨what,2,⟨key,at_,hops,slow,true,code⟩,item,at_,left,jc⟩ false (Ic at_)) (U5 1 at_ 0 false AP)
   unfold mAV AP at c2
   unfold jC at *
   have d1:=Ds.mk [0] (c2);have sc : No 3:=trivial;refine wd Ex [] [] (GD f1 f2 f3 f4) A1 ?_;clear sc d1;with_reducible repeat' first|constructor|intro hc;try simp only[A3] at hc
   exact ⟨⟨[],[.c (jC v ⟨what,2,⟨key,at_,hops,slow,true,code⟩,item,at_,left,jc⟩ (.d (.is left)) (.d (AW [Ic at_])) false)],_⟩,(A2.ck rfl),Nat.le_of_ble_eq_true rfl,_,_,rfl,rfl,rfl,rfl⟩
 ·rw [if_neg (fun h => h5 h.1),if_neg h5] at hj
  have f3:=eq_false' h5
  by_cases h6 : at_ = v.id
  ·rw [if_pos h6] at hj
   subst hj
   have f4:=AA h6
   have hv:=F7 v ⟨what,phase,⟨key,at_,hops,slow,true,code⟩,item,at_,left,0⟩ .e0 true rfl
   unfold jC at hv
   unfold jC
   have d1:=Ds.mk [0] (hv);have sc : No 3:=trivial;refine wd Ex [] [] (GD f1 f2 f3 f4) A1 ?_;clear sc d1;with_reducible repeat' first|constructor|intro hc;try simp only[A3] at hc
   exact ⟨⟨[],[.c (jC v ⟨what,5,⟨key,at_,hops,slow,true,code⟩,item,at_,[],0⟩ (.d (.is [])) (.d (AW [])) true)],_⟩,(A2.trans' (A2.Ix 0 35 (.sl 15 []) rfl rfl rfl rfl (by simp [A4])) (A2.ck rfl) (Nat.le_of_ble_eq_true rfl)),Nat.le_of_ble_eq_true rfl,_,_,rfl,rfl,rfl,rfl⟩
  ·rw [if_neg h6] at hj
   subst hj
   have f4:=eq_false' h6
   have c2:=B4.arg (NR v ⟨what,4,⟨key,at_,hops,slow,true,code⟩,item,at_,left,jc⟩ false (Qe at_ item.key)) (U5 6 at_ 0 false ⟨item.key,0,0,false⟩)
   unfold mAV at c2
   unfold jC at *
   have d1:=Ds.mk [0] (c2);have sc : No 3:=trivial;refine wd Ex [] [] (GD f1 f2 f3 f4) A1 ?_;clear sc d1;with_reducible repeat' first|constructor|intro hc;try simp only[A3] at hc
   exact ⟨⟨[],[.c (jC v ⟨what,4,⟨key,at_,hops,slow,true,code⟩,item,at_,left,jc⟩ (.d (.is left)) (.d (AW [Qe at_ item.key])) false)],_⟩,(A2.ck rfl),Nat.le_of_ble_eq_true rfl,_,_,rfl,rfl,rfl,rfl⟩
abbrev H9 : List Nat:=[0,1,2,4,6,16,27,37]
theorem SF (l : List Int) (hl : l.length ≤ 1048576) : B4 Tryz.prog 122 [.d (.is l)] [] (.sl 0 l.length 1) [.a (.is l)]:=by
 refine A7 AB Tryz.func122 rfl rfl (Nat.le_of_ble_eq_true rfl) ?_
 have nS:=True.intro
 repeat' (first | ((with_reducible refine sg ?_);first | with_reducible rfl | ((with_reducible refine GC ?_);first | kernel_rfl | rfl | (simp [Ci,Do,nS];done)) | with_reducible refine G5 ?_ ?_ | with_reducible exact Nat.beq_refl _ | with_reducible exact BP _ | ((with_reducible refine decide_eq_true ?_);first | omega | (simp only [Dh,nS];omega)) | decide | (simp [Dh,slc,BC,D.one,Bt,AV.one,nS];done) | (simp [Dh,nS];omega)) | ((with_reducible refine aQ ?_);first | (refine Gz rfl ?_;refine aJ AB rfl rfl rfl rfl ?_) | refine bR [7] AB rfl rfl rfl rfl rfl rfl ?_ ?_ | refine ZB AB rfl rfl rfl rfl rfl rfl (fun hnil => ?_) ?_ | refine Zn AB rfl rfl rfl rfl rfl rfl (fun hnil => ?_) ?_ | refine Xq AB rfl rfl rfl rfl ?_ ?_ | refine Xn [0,2,4] rfl ?_ | refine Xw AB rfl rfl rfl rfl ?_ ?_) | refine JU ?_ | refine GW ?_ | refine Gl ?_ | refine JY ?_ | refine Ez ?_ | refine GJ ?_ | refine E6 rfl ?_ | refine E7 rfl ?_ | (refine Hm rfl (fun hc => ?_) (fun hc => ?_) <;> (try simp only [A3] at hc) <;> (try (exfalso;omega))))
 ·have e:=is_nil hnil
  subst e
  refine wk [0,2,4] [] A1 A1 ?_;with_reducible repeat' first|constructor|intro hc;try simp only[A3] at hc
  exact ⟨_,A2.WJ 2 (.is []) rfl rfl rfl trivial,Nat.zero_le _,_,_,rfl,rfl,rfl,rfl⟩
 ·exact ⟨_,(A2.ck rfl),Nat.zero_le _,_,_,rfl,rfl,rfl,rfl⟩
theorem Fn.own {P : Program} {f : FuncId} {x a : D} {sz : Nat} {t : Bool} (h : Go.Gar.Fn P f [x,a] (.b t)) : B4 P f [.sl 0 (A6 x) sz,.d a] [.a x] (.d (.b t)) [.a x]:=by
 refine ⟨h.1,fun G w vs hG hR hv => ?_⟩
 have hid : G.H[0]? = some (.a x):=by rw [hG];rfl
 have hF:=(Hh hR hid).1
 have hv2:=An.Cr hR hid hv
 have e1 : AV.Eu 0 x [.sl 0 (A6 x) sz,.d a] = [x,a].map .d:=by simp [AV.Eu,AV.Cr]
 rw [e1] at hv2
 refine (h.2 _ w vs hF.mem hF.st (HT.1 hv2)).mono ?_
 rintro e w' ⟨v,m',rfl,hr,hle,hok,hnew,ho,ht,hou,hs,hk⟩
 have hlow : ∀ b,b < w.heap.size → w'.heap[b]? = w.heap[b]?:=hk
 have hH : Af G w':=by
  refine ⟨fun id q hq => (hR.blk id q hq).Lq (GI.refl G) (fun b N hl hρ => hlow b (DX hR ⟨id,N,q,hq,hl,hρ⟩)) rfl,hR.inj,fun b k v hv => ?_,hR.sep,hR.st⟩
  have hc:=hR.mem b k v hv
  have hb : b < w.heap.size:=by
   unfold World.cell? at hc
   rcases Nat.lt_or_ge b w.heap.size with hlt | hge
   ·exact hlt
   ·simp [Array.getElem?_eq_none hge] at hc
  rw [World.cell?_of_block (w:=w) (hlow b hb)]
  exact hc
 exact ⟨_,.d (.b t),G,rfl,⟨rfl,hG⟩,by simp only [RD] at hr;subst hr;simp only [RV,RD],hH,⟨ho,ht,hou,hs,fun b hb ho => ⟨hk b hb,ho⟩,fun _ _ _ hv => .inl hv,GI.refl G⟩⟩
abbrev FW (j : Job) (lf : AV) : List AV:=[.d (.i .u8 j.what),.d (.i .u8 j.phase),.d (.i .i64 j.look.key),.d (.i .i64 j.look.at_),.d (.i .i64 j.look.hops),.d (.b j.look.slow),.d (.b j.look.found),.d (.i .i64 j.look.code),.d (.s j.item.key),.d (.i .i64 j.item.value),.d (.i .i64 j.item.version),.d (.b j.item.gone),.d (.i .i64 j.owner),lf,.d (.i .i64 j.code)]
theorem UI (j : Job) (h : j.left.length ≤ 1048576) (h0 : j.left ≠ []) : B4 Tryz.prog 69 [.d j.d] [] (.ag (FW j (.sl 2 j.left.length 1))) [.gone,.c (FW j (.sl 2 j.left.length 1)),.a (.is j.left)]:=by
 have c1:=SF j.left h
 have f1:=eq_false' (show (j.left.length : Int) ≠ 0 by have:=List.length_pos_iff.2 h0;omega)
 refine A7 AB Tryz.func69 rfl rfl (Nat.le_of_ble_eq_true rfl) ?_
 unfold Job.d Job.cells
 have d1:=Ds.mk [] (c1);refine wk [0,1,2,6] [] (AD f1) A1 ?_;clear d1;with_reducible repeat' first|constructor|intro hc;try simp only[A3] at hc
 exact ⟨⟨[(2,.ptr 1 0 15)],[.gone,.c (FW j (.sl 2 j.left.length 1)),.a (.is j.left)],_⟩,(A2.ck rfl),Nat.zero_le _,_,_,rfl,rfl,rfl,rfl⟩
theorem Rj (v : View) (j : Job) (p e : Int) (h : p ∉ j.left) (hn : j.left.length ≤ 100000) : B4 Tryz.prog 170 [.ptr 0 0 37,.d (.i .i64 p),.d (.i .i64 e)] [.c (jC v j (.d (.is j.left)) .e0 false)] (.tup []) (jE v ⟨Bz j p e,[],false⟩):=by
 have c1:=Ey j.left p (by omega)
 rw [decide_eq_false h] at c1
 refine A7 AB Tryz.func170 rfl rfl (Nat.le_of_ble_eq_true rfl) ?_
 have hj : Bz j p e = j:=if_neg h
 rw [hj]
 unfold jE jC
 refine wd H9 [] [] A1 (AD @c1) ?_;with_reducible repeat' first|constructor|intro hc;try simp only[A3] at hc
 exact ⟨⟨[],[.c (jC v j (.d (.is j.left)) (.d (AW [])) false)],_⟩,(A2.trans' (A2.Ix 0 35 (.sl 15 []) rfl rfl rfl rfl (by simp [A4])) (A2.ck rfl) (Nat.le_of_ble_eq_true rfl)),Nat.le_of_ble_eq_true rfl,_,_,rfl,rfl,rfl,rfl⟩
theorem OI (v : View) (j : Job) (p e : Int) (h : p ∈ j.left) (hn : j.left.length ≤ 100000) : B4 Tryz.prog 170 [.ptr 0 0 37,.d (.i .i64 p),.d (.i .i64 e)] [.c (jC v j (.sl 1 j.left.length 1) .e0 false),.a (.is j.left)] (.tup []) (jE v ⟨Bz j p e,[],false⟩ ++ [.gone]):=by
 obtain ⟨what,phase,look,item,owner,left,code⟩:=j
 have h0 : left ≠ []:=fun e => by dsimp only at h;rw [e] at h;cases h
 have hn' : left.length ≤ 100000:=hn
 have c0:=Ey left p hn'
 rw [decide_eq_true h] at c0
 have c1:=Fn.own (sz:=1) c0
 have c2:=UK p left h0 (by omega)
 have hj : Bz ⟨what,phase,look,item,owner,left,code⟩ p e = ⟨what,if Au left p = [] then 5 else phase,look,item,owner,Au left p,if e ≠ 0 then e else code⟩:=if_pos h
 rw [hj]
 generalize Au left p = L at *
 refine A7 AB Tryz.func170 rfl rfl (Nat.le_of_ble_eq_true rfl) ?_
 unfold jE jC
 have d1:=Ds.mk [1] (c1);have d2:=Ds.mk [2,1] (c2);refine wd H9 [4] [] A1 A1 ?_;clear d2 d1;with_reducible repeat' first|constructor|intro hc;try simp only[A3] at hc
 refine BN (A2.freeze 3 (x:=.is L) rfl) (by rw [Ca];exact Nat.le_refl _) ?_
 simp only [J9,DN,AC.Cr,AV.Cr,AV.Eu,Hk,Nat.reduceEqDiff,Nat.reduceAdd,decide_true,decide_false,A6,List.length_cons,List.length_nil,if_true,if_false,reduceCtorEq]
 clear h hn c0 c1 c2 hj
 by_cases he : e = 0
 ·by_cases hL : L = []
  ·subst hL
   subst he
   have hv:=F7 v ⟨what,phase,look,item,owner,[],code⟩ .e0 false rfl
   unfold jC at hv
   rw [if_pos rfl,if_neg (by decide)]
   have d1:=Ds.mk [0] (hv);refine wd H9 [] [] A1 A1 ?_;clear d1;with_reducible repeat' first|constructor|intro hc;try simp only[A3] at hc
   exact ⟨⟨[],[.c (jC v ⟨what,5,look,item,owner,[],code⟩ (.d (.is [])) (.d (AW [])) false),.gone],_⟩,(A2.trans' (A2.Ix 0 35 (.sl 15 []) rfl rfl rfl rfl (by simp [A4])) (A2.ck rfl) (Nat.le_of_ble_eq_true rfl)),Nat.le_of_ble_eq_true rfl,_,_,rfl,rfl,rfl,rfl⟩
  ·subst he
   have hl0 : ((L.length : Int) == 0) = false:=eq_false' (by have:=List.length_pos_iff.2 hL;omega)
   rw [if_neg hL,if_neg (by decide)]
   refine wd H9 [] [] (AD hl0) A1 ?_;with_reducible repeat' first|constructor|intro hc;try simp only[A3] at hc
   exact ⟨⟨[],[.c (jC v ⟨what,phase,look,item,owner,L,code⟩ (.d (.is L)) (.d (AW [])) false),.gone],_⟩,(A2.trans' (A2.Ix 0 35 (.sl 15 []) rfl rfl rfl rfl (by simp [A4])) (A2.ck rfl) (Nat.le_of_ble_eq_true rfl)),Nat.le_of_ble_eq_true rfl,_,_,rfl,rfl,rfl,rfl⟩
 ·have f1 : (e != 0) = true:=by simpa using he
  rw [if_pos he]
  by_cases hL : L = []
  ·subst hL
   have hv:=F7 v ⟨what,phase,look,item,owner,[],e⟩ .e0 false rfl
   unfold jC at hv
   rw [if_pos rfl]
   have d1:=Ds.mk [0] (hv);refine wd H9 [] [] (AD f1) A1 ?_;clear d1;with_reducible repeat' first|constructor|intro hc;try simp only[A3] at hc
   exact ⟨⟨[],[.c (jC v ⟨what,5,look,item,owner,[],e⟩ (.d (.is [])) (.d (AW [])) false),.gone],_⟩,(A2.trans' (A2.Ix 0 35 (.sl 15 []) rfl rfl rfl rfl (by simp [A4])) (A2.ck rfl) (Nat.le_of_ble_eq_true rfl)),Nat.le_of_ble_eq_true rfl,_,_,rfl,rfl,rfl,rfl⟩
  ·have hl0 : ((L.length : Int) == 0) = false:=eq_false' (by have:=List.length_pos_iff.2 hL;omega)
   rw [if_neg hL]
   refine wd H9 [] [] (Ao f1 hl0) A1 ?_;with_reducible repeat' first|constructor|intro hc;try simp only[A3] at hc
   exact ⟨⟨[],[.c (jC v ⟨what,phase,look,item,owner,L,e⟩ (.d (.is L)) (.d (AW [])) false),.gone],_⟩,(A2.trans' (A2.Ix 0 35 (.sl 15 []) rfl rfl rfl rfl (by simp [A4])) (A2.ck rfl) (Nat.le_of_ble_eq_true rfl)),Nat.le_of_ble_eq_true rfl,_,_,rfl,rfl,rfl,rfl⟩
theorem B4.sw {P : Program} {f : FuncId} {args : List AV} {r : AV} {H' : List AC} (p q : Nat) (h : B4 P f args [] r H') (hp : p < H'.length) (hq : q < H'.length) : B4 P f args [] (r.ren (sw p q)) (PQ p q H'):=by
 refine ⟨h.1,fun G w vs hG hR hv => (h.2 G w vs hG hR hv).mono ?_⟩
 rintro e w' ⟨v,r',G',rfl,⟨rfl,hH⟩,hrv,hr,hf⟩
 have e3 : p < G'.H.length:=by rw [hH];exact hp
 have e4 : q < G'.H.length:=by rw [hH];exact hq
 let K : Gh:=⟨fun j => G'.ρ (Go.Gar.sw p q j),PQ p q G'.H,G'.m⟩
 have up : ∀ id b,G'.H[id]? = some b → K.H[Go.Gar.sw p q id]? = some (b.ren (Go.Gar.sw p q)) ∧ K.ρ (Go.Gar.sw p q id) = G'.ρ id:=by
  intro id b hb
  refine ⟨?_,by show G'.ρ (Go.Gar.sw p q (Go.Gar.sw p q id)) = _;rw [Gi]⟩
  show (PQ p q G'.H)[Go.Gar.sw p q id]? = _
  rw [IV e3 e4,Gi,hb];rfl
 have dn : ∀ j b,K.H[j]? = some b → ∃ b0,G'.H[Go.Gar.sw p q j]? = some b0 ∧ b = b0.ren (Go.Gar.sw p q):=by
  intro j b hb
  have hb : (PQ p q G'.H)[j]? = some b:=hb
  rw [IV e3 e4,Option.map_eq_some_iff] at hb
  obtain ⟨b0,k1,k2⟩:=hb
  exact ⟨b0,k1,k2.symm⟩
 have own : ∀ b,Own K b → Own G' b:=by
  rintro b ⟨id,M,blk,h1,h2,h3⟩
  obtain ⟨b0,k1,rfl⟩:=dn id blk h1
  rw [C9] at h2
  exact ⟨Go.Gar.sw p q id,M,b0,k1,h2,h3⟩
 refine ⟨v,_,K,rfl,⟨rfl,by show PQ p q G'.H = _;rw [hH]⟩,RV.ren (G0:=G') (G:=K) (ι:=Go.Gar.sw p q) (Mem.le_refl _) up hrv,⟨fun j b hb => ?_,fun i j x y b M M' hx hy lx ly r1 r2 => ?_,hr.mem,fun b hb => hr.sep b (own b hb),hr.st⟩,⟨hf.os,hf.tape,hf.output,hf.size,fun b hb hno => ?_,hf.memNew,fun id b hb => ?_,hf.gle.mem⟩⟩
 ·obtain ⟨b0,k1,rfl⟩:=dn j b hb
  have:=BR.ren (G0:=G') (G:=K) (ι:=Go.Gar.sw p q) (Mem.le_refl _) up (up _ _ k1).2 (hr.blk _ _ k1)
  rw [Gi] at this
  exact this
 ·obtain ⟨x0,k1,rfl⟩:=dn i x hx
  obtain ⟨y0,k2,rfl⟩:=dn j y hy
  rw [C9] at lx ly
  have:=hr.inj _ _ _ _ b M M' k1 k2 lx ly r1 r2
  rw [← Gi p q i,this,Gi]
 ·obtain ⟨f1,f2⟩:=hf.keep b hb hno
  exact ⟨f1,fun h => f2 (own b h)⟩
 ·rw [hG] at hb
  simp at hb
theorem B4.cut {P : Program} {f : FuncId} {args : List AV} {r : AV} {H' : List AC} (K : List AC) (h : B4 P f args [] r H') (hs : C2 K H') (ho : Ae K.length K = true) (hx : r.ok K.length = true) : B4 P f args [] r K:=by
 refine ⟨h.1,fun G w vs hG hR hv => (h.2 G w vs hG hR hv).mono ?_⟩
 rintro e w' ⟨v,r',G',rfl,⟨rfl,hH⟩,hrv,hr,hf⟩
 have hs' : C2 K G'.H:=by rw [hH];exact hs
 exact ⟨v,_,G'.cut K,rfl,⟨rfl,rfl⟩,RV.cut hs' hx hrv,hr.cut hs' ho,hf.ghost (SJ.cut hs') (by rw [hG];exact Nat.zero_le _)⟩
theorem OP (j : Job) (h : j.left.length ≤ 1048576) (h0 : j.left ≠ []) : B4 Tryz.prog 69 [.d j.d] [] (.ag (FW j (.sl 0 j.left.length 1))) [.a (.is j.left)] :=
 B4.cut [.a (.is j.left)] (B4.sw 0 2 (UI j h h0) (Nat.le_of_ble_eq_true rfl) (Nat.le_of_ble_eq_true rfl)) ⟨.inr rfl,trivial⟩ rfl rfl
end Nd
end Go.Proofs.YtnahkfkljohjaaaGreatDoor
