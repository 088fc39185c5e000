/- Part 33 of the texts of this proof, put together by a program and made short.
Conditions: none; what each theorem asks stands in its own hypotheses. -/
import Derived.Test.YtnahkfkljohjaaaGreatDoorH28
import Derived.Test.YtnahkfkljohjaaaGreatDoorH32
import Derived.Ground.SlgfProg
import Derived.Lib.SliceRun
import Derived.Shelf.SlicesE.DeleteFunc
import Derived.Sort.Walk0
import Derived.KernelRfl
import Derived.RangeFuncIn
import Derived.OpenShut
import Derived.ProofKit
import Derived.CallsIn
import Derived.RangeFuncLeaves
import Derived.OrdersIn
import Derived.TacticsIn
import Derived.ChangeKeysEq
import Derived.Laws.AppendOwn
import Derived.Laws.OwnMore
import Derived.Laws.MakeOwn
import Derived.Laws.Rows
import Derived.Laws.Cells
import Derived.Laws.Tables
import Derived.Laws.CopyRow
import Derived.Laws.Strings
import Derived.Laws.IdiomStrings
import Derived.Laws.BytesArg
import Derived.Sort.Grow
import Derived.Laws.Cover3
import Derived.RecoverIn
import Derived.Test.YtnahkfkljohjaaaGreatDoorProg
set_option linter.unusedSimpArgs false
set_option linter.unusedVariables false
set_option linter.unnecessarySimpa false
set_option maxHeartbeats 40000000
namespace Go.Proofs.YtnahkfkljohjaaaGreatDoor
namespace Nd
open Go.Gar
open Wi (A8 B0 Ak AX B8 mC)
set_option maxRecDepth 4000
abbrev Ju : List Nat:=[0,1,4,5,6,11,16]
abbrev IH : List Nat:=[0,1,4,5,6,7,11,12,33,38,59]
abbrev hC (n : Node) (aq : AV) : List AV:=.d (.i .i64 n.view.id) :: .d (.is n.view.base) :: .d (.is n.view.list) :: .d (.i .i64 n.view.pred) :: .d (.i .i64 (n.view.f 0)) :: .d (.i .i64 (n.view.f 1)) :: .d (.i .i64 (n.view.f 2)) :: .d (.i .i64 (n.view.f 3)) :: .d (.i .i64 (n.view.f 4)) :: .d (.i .i64 (n.view.f 5)) :: .d (.i .i64 (n.view.f 6)) :: .d (.i .i64 (n.view.f 7)) :: .d (.i .i64 (n.view.f 8)) :: .d (.i .i64 (n.view.f 9)) :: .d (.i .i64 (n.view.f 10)) :: .d (.i .i64 (n.view.f 11)) :: .d (.i .i64 (n.view.f 12)) :: .d (.i .i64 (n.view.f 13)) :: .d (.i .i64 (n.view.f 14)) :: .d (.i .i64 (n.view.f 15)) :: .d (.i .i64 n.clock) :: .d (.i .i64 n.calls.id) :: .d (.i .i64 n.calls.many) :: .d (BA n.calls.op) :: .d (AS n.seen) :: .d (.i .u8 n.phase) :: .d (.i .i64 n.of_) :: .d (.i .u8 n.finger.what) :: .d (.i .u8 n.finger.phase) :: .d (.i .i64 n.finger.look.key) :: .d (.i .i64 n.finger.look.at_) :: .d (.i .i64 n.finger.look.hops) :: .d (.b n.finger.look.slow) :: .d (.b n.finger.look.found) :: .d (.i .i64 n.finger.look.code) :: .d (.s n.finger.item.key) :: .d (.i .i64 n.finger.item.value) :: .d (.i .i64 n.finger.item.version) :: .d (.b n.finger.item.gone) :: .d (.i .i64 n.finger.owner) :: .d (.is n.finger.left) :: .d (.i .i64 n.finger.code) :: .d (.i .u8 n.mirror.what) :: .d (.i .u8 n.mirror.phase) :: .d (.i .i64 n.mirror.look.key) :: .d (.i .i64 n.mirror.look.at_) :: .d (.i .i64 n.mirror.look.hops) :: .d (.b n.mirror.look.slow) :: .d (.b n.mirror.look.found) :: .d (.i .i64 n.mirror.look.code) :: .d (.s n.mirror.item.key) :: .d (.i .i64 n.mirror.item.value) :: .d (.i .i64 n.mirror.item.version) :: .d (.b n.mirror.item.gone) :: .d (.i .i64 n.mirror.owner) :: .d (.is n.mirror.left) :: .d (.i .i64 n.mirror.code) :: .d (.i .u8 n.client.what) :: .d (.i .u8 n.client.phase) :: .d (.i .i64 n.client.look.key) :: .d (.i .i64 n.client.look.at_) :: .d (.i .i64 n.client.look.hops) :: .d (.b n.client.look.slow) :: .d (.b n.client.look.found) :: .d (.i .i64 n.client.look.code) :: .d (.s n.client.item.key) :: .d (.i .i64 n.client.item.value) :: .d (.i .i64 n.client.item.version) :: .d (.b n.client.item.gone) :: .d (.i .i64 n.client.owner) :: .d (.is n.client.left) :: .d (.i .i64 n.client.code) :: .d (.i .i64 n.next) :: .d (.s n.last) :: .d (AZ n.keep) :: .d (.i .i64 n.bad) :: aq :: []
theorem Es (n : Node) : B4 Tryz.prog 34 [.ptr 0 0 77,.d (.i .u8 5)] [.c (hC n .e0)] (.ptr 0 27 77) [.c (hC n .e0)]:=by
 refine A7 AB Tryz.func34 rfl rfl (Nat.le_of_ble_eq_true rfl) ?_
 refine wk Ju [] A1 A1 ?_;with_reducible repeat' first|constructor|intro hc;try simp only[A3] at hc
 exact ⟨_,(A2.ck rfl),Nat.le_of_ble_eq_true rfl,_,_,rfl,rfl,rfl,rfl⟩
theorem En (n : Node) : B4 Tryz.prog 34 [.ptr 0 0 77,.d (.i .u8 6)] [.c (hC n .e0)] (.ptr 0 42 77) [.c (hC n .e0)]:=by
 refine A7 AB Tryz.func34 rfl rfl (Nat.le_of_ble_eq_true rfl) ?_
 refine wk Ju [] A1 A1 ?_;with_reducible repeat' first|constructor|intro hc;try simp only[A3] at hc
 exact ⟨_,(A2.ck rfl),Nat.le_of_ble_eq_true rfl,_,_,rfl,rfl,rfl,rfl⟩
theorem Eh (n : Node) : B4 Tryz.prog 34 [.ptr 0 0 77,.d (.i .u8 7)] [.c (hC n .e0)] (.ptr 0 57 77) [.c (hC n .e0)]:=by
 refine A7 AB Tryz.func34 rfl rfl (Nat.le_of_ble_eq_true rfl) ?_
 refine wk Ju [] A1 A1 ?_;with_reducible repeat' first|constructor|intro hc;try simp only[A3] at hc
 exact ⟨_,(A2.ck rfl),Nat.le_of_ble_eq_true rfl,_,_,rfl,rfl,rfl,rfl⟩
theorem Tt (n : Node) : B4 Tryz.prog 34 [.ptr 0 0 76,.d (.i .u8 7)] [.c (AM n)] (.ptr 0 57 76) [.c (AM n)]:=by
 refine A7 AB Tryz.func34 rfl rfl (Nat.le_of_ble_eq_true rfl) ?_
 refine wk Ju [] A1 A1 ?_;with_reducible repeat' first|constructor|intro hc;try simp only[A3] at hc
 exact ⟨_,(A2.ck rfl),Nat.le_of_ble_eq_true rfl,_,_,rfl,rfl,rfl,rfl⟩
abbrev hK (n : Node) (k : List Item) : Node:={ n with keep:=k }
theorem N6 (n : Node) (j : Job) (hn : n.keep.length ≤ 1048576) (hs : j.item.key.length ≤ 9223372036854775807) : B4 Tryz.prog 96 [.ptr 0 0 77,.ptr 1 0 15] [.c (hC n .e0),.c (FW j (.d (.is j.left)))] (.tup []) [.c (hC (hK n (CN n.keep j).1) .e0),.c (FW (CN n.keep j).2 (.d (.is (CN n.keep j).2.left)))]:=by
 obtain ⟨what,phase,look,item,owner,left,code⟩:=j
 have c1:=Xr n.keep item hn
 have c2:=Y4 n.keep item.key hn
 generalize hT : CN n.keep ⟨what,phase,look,item,owner,left,code⟩ = T
 unfold CN at hT
 dsimp only at hT
 unfold Item.d Item.cells at c1
 refine A7 AB Tryz.func96 rfl rfl (Nat.le_of_ble_eq_true rfl) ?_
 generalize GZ n.keep item = p at *
 obtain ⟨pk,pe⟩:=p
 generalize Di n.keep item.key = g at *
 obtain ⟨gi,ge⟩:=g
 dsimp only at *
 unfold hC
 by_cases h1 : what = 2
 ·have f1:=AA h1
  rw [if_pos h1] at hT
  by_cases h2 : pe = 0
  ·have f2:=AA h2
   rw [if_neg (fun h => h h2)] at hT
   subst hT
   refine wd IH [] [] (Ao f1 f2) (AD @c1) ?_;with_reducible repeat' first|constructor|intro hc;try simp only[A3] at hc
   exact ⟨⟨[],[.c (hC (hK n pk) .e0),.c (FW ⟨what,phase,look,item,owner,left,code⟩ (.d (.is left)))],_⟩,(A2.ck rfl),Nat.le_of_ble_eq_true rfl,_,_,rfl,rfl,rfl,rfl⟩
  ·have f2:=eq_false' h2
   rw [if_pos h2] at hT
   subst hT
   refine wd IH [] [] (Ao f1 f2) (AD @c1) ?_;with_reducible repeat' first|constructor|intro hc;try simp only[A3] at hc
   exact ⟨⟨[],[.c (hC (hK n pk) .e0),.c (FW ⟨what,phase,look,item,owner,left,pe⟩ (.d (.is left)))],_⟩,(A2.ck rfl),Nat.le_of_ble_eq_true rfl,_,_,rfl,rfl,rfl,rfl⟩
 rw [if_neg h1] at hT
 have f1:=eq_false' h1
 by_cases h3 : what = 3
 ·have f3:=AA h3
  rw [if_pos h3] at hT
  unfold Item.d Item.cells at c2
  by_cases h2 : ge = 0
  ·have f2:=AA h2
   rw [if_pos h2] at hT
   subst hT
   subst h2
   refine wd IH [] [(0,14),(1,14),(2,14),(3,14),(4,14),(5,14),(6,14),(7,14),(8,14),(9,14),(13,15)] (Ao f1 f3) (AD @c2) ?_;with_reducible repeat' first|constructor|intro hc;try simp only[A3] at hc
   exact ⟨⟨[],[.c (hC (hK n n.keep) .e0),.c (FW ⟨what,phase,look,gi,owner,left,0⟩ (.d (.is left)))],_⟩,(A2.ck rfl),Nat.le_of_ble_eq_true rfl,_,_,rfl,rfl,rfl,rfl⟩
  ·have f2:=eq_false' h2
   rw [if_neg h2] at hT
   subst hT
   refine wd IH [] [(0,14),(1,14),(2,14),(3,14),(4,14),(5,14),(6,14),(7,14),(8,14),(9,14),(13,15)] (Bo f1 f2 f3) (AD @c2) ?_;with_reducible repeat' first|constructor|intro hc;try simp only[A3] at hc
   exact ⟨⟨[],[.c (hC (hK n n.keep) .e0),.c (FW ⟨what,phase,look,item,owner,left,ge⟩ (.d (.is left)))],_⟩,(A2.ck rfl),Nat.le_of_ble_eq_true rfl,_,_,rfl,rfl,rfl,rfl⟩
 ·have f3:=eq_false' h3
  rw [if_neg h3] at hT
  subst hT
  refine wd IH [] [] (Ao f1 f3) A1 ?_;with_reducible repeat' first|constructor|intro hc;try simp only[A3] at hc
  exact ⟨⟨[],[.c (hC (hK n n.keep) .e0),.c (FW ⟨what,phase,look,item,owner,left,code⟩ (.d (.is left)))],_⟩,(A2.ck rfl),Nat.le_of_ble_eq_true rfl,_,_,rfl,rfl,rfl,rfl⟩
end Nd
end Go.Proofs.YtnahkfkljohjaaaGreatDoor
namespace Go.Proofs.YtnahkfkljohjaaaGreatDoor
namespace Nd
open Go.Gar
open Wi (A8 B0 Ak AX B8)
set_option maxRecDepth 4000
abbrev Jn : List Nat:=[0,1,2,4,5,9,10]
theorem Nb (n : Int) : Go.Gar.Fn Tryz.prog 211 [.i .i64 n] (.i .i64 (Ba n)):=by
 have e:=WM n
 refine A0 AB Tryz.func211 rfl rfl (Nat.le_of_ble_eq_true rfl) ?_
 refine wk [0,2] [] (AD e) A1 ?_;with_reducible repeat' first|constructor|intro hc;try simp only[A3] at hc
 refine ⟨_,_,rfl,rfl,?_⟩;simp [AE,A6,A5,A4]
theorem XV (n : Int) (b : UInt8) : Go.Gar.Fn Tryz.prog 213 [.i .i64 n,.i .u8 (b.toNat : Int)] (.i .i64 (WU n b)):=by
 have c1:=Nb n
 have c2:=Nb (40503 * Ba n + (b.toNat : Int) + 1)
 have hp:=HY n
 have hb : b.toNat < 256:=b.toNat_lt
 have hT : WU n b = Ba (40503 * Ba n + (b.toNat : Int) + 1):=rfl
 rw [hT]
 clear hT
 refine A0 AB Tryz.func213 rfl rfl (Nat.le_of_ble_eq_true rfl) ?_
 generalize Ba n = p at *
 refine wk [0,1,4] [] A1 (Ao @c1 @c2) ?_;with_reducible repeat' first|constructor|intro hc;try simp only[A3] at hc
 refine ⟨_,_,rfl,rfl,?_⟩;simp [AE,A6,A5,A4]
theorem VS (s : List UInt8) : B4 Tryz.prog 212 [.d (.s s)] [] (.fn (.func 224) [] [.ptr 0 0 1]) [.c [.d (.s s)]]:=by
 refine A7 AB Tryz.func212 rfl rfl (Nat.le_of_ble_eq_true rfl) ?_
 refine wk [0,1,2] [] A1 A1 ?_;with_reducible repeat' first|constructor|intro hc;try simp only[A3] at hc
 exact ⟨_,(A2.ck rfl),Nat.zero_le _,_,_,rfl,rfl,rfl,rfl⟩
theorem Tx (s : List UInt8) (hs : s.length ≤ 9223372036854775807) : Go.Gar.Fn Tryz.prog 190 [.i .i64 7,.s s] (.i .i64 (Ng s)):=by
 have c1:=Nb 7
 have c2:=VS s
 refine A0 AB Tryz.func190 rfl rfl (Nat.le_of_ble_eq_true rfl) ?_
 rw [show Ba 7 = 7 from rfl] at c1
 have d1:=Ds.mk [] (c2);refine wk Jn [] A1 (AD @c1) ?_;clear d1;with_reducible repeat' first|constructor|intro hc;try simp only[A3] at hc
 refine Aq (K:=fun r _ H' => H' = [.c [.d (.i .i64 (Ng s))],.c [.d (.s s)],.lp r]) rfl (by first | (simp only [AL,AJ,Nat.reduceAdd,Int.reduceAdd,Int.reduceSub,Int.reduceMul,Int.reduceToNat];done) | (simp only [AL,AJ,Nat.reduceAdd,Int.reduceAdd,Int.reduceSub,Int.reduceMul,Int.reduceToNat];rfl) | rfl) (by first | (simp only [AL,AJ,Nat.reduceAdd,Int.reduceAdd,Int.reduceSub,Int.reduceMul,Int.reduceToNat];done) | (simp only [AL,AJ,Nat.reduceAdd,Int.reduceAdd,Int.reduceSub,Int.reduceMul,Int.reduceToNat];rfl) | rfl) (fun r => (by first | (simp only [AL,AJ,Nat.reduceAdd,Int.reduceAdd,Int.reduceSub,Int.reduceMul,Int.reduceToNat];done) | (simp only [AL,AJ,Nat.reduceAdd,Int.reduceAdd,Int.reduceSub,Int.reduceMul,Int.reduceToNat];rfl) | rfl)) ?_ ?_
 ·intro r hr
  have hk:=hr.ok (k:=2) rfl
  have hY : ∀ (b : UInt8) p,YT Tryz.prog 2 [.d (.i .u8 (b.toNat : Int))] [.c [.d (.i .i64 p)],.c [.d (.s s)],.lp r] fun x K => x = .d (.b true) ∧ K = [.c [.d (.i .i64 (WU p b))],.c [.d (.s s)],.lp r]:=by
   intro b p
   have c3:=XV p b
   refine Aj hr rfl rfl rfl ?_
   refine wk Jn [] A1 A1 ?_;with_reducible repeat' first|constructor|intro hc;try simp only[A3] at hc
   refine ⟨rfl,Bl (by first | (simp only [AL,AJ,Nat.reduceAdd,Int.reduceAdd,Int.reduceSub,Int.reduceMul,Int.reduceToNat];done) | (simp only [AL,AJ,Nat.reduceAdd,Int.reduceAdd,Int.reduceSub,Int.reduceMul,Int.reduceToNat];rfl) | rfl) ?_⟩
   refine wk Jn [] A1 (AD @c3) ?_;with_reducible repeat' first|constructor|intro hc;try simp only[A3] at hc
   exact ⟨_,A2.refl _,Nat.le_refl _,rfl,rfl,rfl⟩
  refine Ap AB Tryz.func224 rfl rfl (Nat.le_of_ble_eq_true rfl) ?_
  refine wk [0,1,3,5,6,7,14] [] A1 A1 ?_;with_reducible repeat' first|constructor|intro hc;try simp only[A3] at hc
  refine C6 (fun j => j ≤ s.length) (fun j : Nat => [(6,.d (.i .i64 j))]) (fun j => [(0,.c [.d (.i .i64 (Ng (s.take j)))])]) (fun j => s.length - j) 0 (Nat.zero_le _) (fun _ => rfl) (fun _ => rfl) ?_ ?_
  ·exact A2.ck rfl
  intro j hj
  by_cases hjl : j < s.length
  ·obtain ⟨b,hq⟩:=AR hjl
   have gq : s.getD j 0 = b:=getD_at hq
   have hn : Ng (s.take (j + 1)) = WU (Ng (s.take j)) b:=by unfold Ng;rw [AT hq,List.foldl_append];rfl
   have q1:=@hY;refine wk [0,1,3,5,6,7,14] [] (AD gq) A1 ?_;clear q1;with_reducible repeat' first|constructor|intro hc;try simp only[A3] at hc
   refine ⟨j + 1,hjl,by omega,Nat.le_refl _,?_⟩
   exact A2.cut rfl (by repeat' (first | exact True.intro | refine And.intro (by (first | rfl | ((with_reducible_and_instances refine congrArg (fun z => some (AV.d (D.i _ z))) ?_);omega) | (refine congrArg (fun z => some (AV.d (D.i _ z))) (?_ : (_ : Int) = _);omega) | (refine congrArg some ?_;simp only [hn];done) | (refine congrArg some ?_;simp [hn];done))) ?_)) (by repeat' (first | exact True.intro | refine And.intro (Or.inr rfl) ?_ | refine And.intro (Or.inl ⟨rfl,rfl⟩) ?_ | refine And.intro (Or.inr (by simp only [hn])) ?_ | refine And.intro (Or.inr (by simp [hn])) ?_)) (by first | rfl | (simp (decide:=true) [Ae,AC.ok,AV.oks,AV.ok,hk];done)) rfl
  ·have e : j = s.length:=by omega
   subst e
   rw [List.take_length]
   refine wk [0,1,3,5,6,7,14] [] A1 A1 ?_;with_reducible repeat' first|constructor|intro hc;try simp only[A3] at hc
   exact ⟨_,A2.refl _,Nat.le_refl _,_,_,rfl,rfl,rfl⟩
 ·rintro r hr x H' rfl
  refine .inl ⟨rfl,?_⟩
  refine wk Jn [] A1 A1 ?_;with_reducible repeat' first|constructor|intro hc;try simp only[A3] at hc
  refine ⟨_,_,rfl,rfl,?_⟩;simp [AE,A6,A5,A4]
theorem V8 (s : List UInt8) (hs : s.length ≤ 9223372036854775807) : Go.Gar.Fn Tryz.prog 139 [.s s] (.tup [.i .i64 (Nw s).1,.i .i64 (Nw s).2]):=by
 have c1:=Tx s hs
 have hT : Nw s = if B8 s then (Ng s,0) else (0,2):=rfl
 have hK : B8 s = (decide ((s.length : Int) ≥ 1) && decide ((s.length : Int) ≤ 20)):=rfl
 generalize Ng s = g at *
 generalize Nw s = R at *
 refine A0 AB Tryz.func139 rfl rfl (Nat.le_of_ble_eq_true rfl) ?_
 by_cases h : B8 s = true
 ·rw [if_pos h] at hT
  rw [h] at hK
  have hK':=hK.symm
  simp only [Bool.and_eq_true,decide_eq_true_eq] at hK'
  have f1 : decide ((s.length : Int) < 1) = false:=decide_eq_false (by omega)
  have f2 : decide ((s.length : Int) > 20) = false:=decide_eq_false (by omega)
  rw [hT]
  have sc : No 3:=trivial;refine wk [0,2,3,11] [] (Ao f1 f2) (AD @c1) ?_;clear sc;with_reducible repeat' first|constructor|intro hc;try simp only[A3] at hc
  refine ⟨_,_,rfl,rfl,?_⟩;simp [AE,A6,A5,A4]
 ·have h' : B8 s = false:=by simpa using h
  rw [if_neg h] at hT
  rw [h'] at hK
  have hK':=hK.symm
  rw [hT]
  by_cases h1 : (s.length : Int) < 1
  ·have f1 : decide ((s.length : Int) < 1) = true:=decide_eq_true h1
   have sc : No 3:=trivial;refine wk [0,2,3,11] [] (AD f1) A1 ?_;clear sc;with_reducible repeat' first|constructor|intro hc;try simp only[A3] at hc
   refine ⟨_,_,rfl,rfl,?_⟩;simp [AE,A6,A5,A4]
  ·have f1 : decide ((s.length : Int) < 1) = false:=decide_eq_false h1
   have f2 : decide ((s.length : Int) > 20) = true:=decide_eq_true (by
    simp only [Bool.and_eq_false_iff,decide_eq_false_iff_not] at hK';omega)
   have sc : No 3:=trivial;refine wk [0,2,3,11] [] (Ao f1 f2) A1 ?_;clear sc;with_reducible repeat' first|constructor|intro hc;try simp only[A3] at hc
   refine ⟨_,_,rfl,rfl,?_⟩;simp [AE,A6,A5,A4]
end Nd
end Go.Proofs.YtnahkfkljohjaaaGreatDoor
namespace Go.Proofs.YtnahkfkljohjaaaGreatDoor
namespace Nd
open Go.Gar
open Wi (A8 B0 Ak AX B8 mC)
set_option maxRecDepth 4000
abbrev Gq : List Nat:=[0,1,2,5,6,7,8,9,10,11,12,13,14,24,40]
theorem VX (what place : Int) (x : Item) (hs : x.key.length ≤ 9223372036854775807) : Go.Gar.Fn Tryz.prog 93 [.i .u8 what,.i .i64 place,x.d] (.tup [.i .i64 (J4 what place x).1,(J4 what place x).2.1.d,.b (J4 what place x).2.2]):=by
 obtain ⟨key,value,version,gone⟩:=x
 have c1:=V8 key hs
 have c2:=Wi.Hz ⟨key,value,version,gone⟩
 unfold J4
 dsimp only
 generalize Nw key = q at *
 obtain ⟨a,e⟩:=q
 refine A0 AB Tryz.func93 rfl rfl (Nat.le_of_ble_eq_true rfl) ?_
 unfold Item.d Item.cells at *
 by_cases h1 : what = 1
 ·have f1:=AA h1
  rw [if_pos h1]
  by_cases h2 : 0 ≤ place
  ·have f2 : decide (place ≥ 0) = true:=decide_eq_true h2
   rw [decide_eq_true h2]
   refine wd Gq [] [] (Ao f1 f2) A1 ?_;with_reducible repeat' first|constructor|intro hc;try simp only[A3] at hc
   refine ⟨_,_,rfl,rfl,?_⟩;simp [AE,A6,A5,A4,AP]
  ·have f2 : decide (place ≥ 0) = false:=decide_eq_false h2
   rw [decide_eq_false h2]
   refine wd Gq [] [] (Ao f1 f2) A1 ?_;with_reducible repeat' first|constructor|intro hc;try simp only[A3] at hc
   refine ⟨_,_,rfl,rfl,?_⟩;simp [AE,A6,A5,A4,AP]
 have f1:=eq_false' h1
 rw [if_neg h1]
 by_cases h2 : what = 2
 ·have f2:=AA h2
  rw [if_pos h2]
  by_cases h3 : e = 0
  ·have f3:=AA h3
   rw [decide_eq_true h3]
   refine wd Gq [] [] (Bo f1 f2 f3) (Ao @c1 @c2) ?_;with_reducible repeat' first|constructor|intro hc;try simp only[A3] at hc
   refine ⟨_,_,rfl,rfl,?_⟩;simp [AE,A6,A5,A4]
  ·have f3:=eq_false' h3
   rw [decide_eq_false h3]
   refine wd Gq [] [] (Bo f1 f2 f3) (Ao @c1 @c2) ?_;with_reducible repeat' first|constructor|intro hc;try simp only[A3] at hc
   refine ⟨_,_,rfl,rfl,?_⟩;simp [AE,A6,A5,A4]
 have f2:=eq_false' h2
 rw [if_neg h2]
 by_cases h3 : what = 3
 ·have f3:=AA h3
  have f4 : (e == 0) = decide (e = 0):=rfl
  rw [if_pos h3]
  refine wd Gq [] [] (GD f1 f2 f3 f4) (AD @c1) ?_;with_reducible repeat' first|constructor|intro hc;try simp only[A3] at hc
  refine ⟨_,_,rfl,rfl,?_⟩;simp [AE,A6,A5,A4]
 ·have f3:=eq_false' h3
  rw [if_neg h3]
  refine wd Gq [] [] (Bo f1 f2 f3) A1 ?_;with_reducible repeat' first|constructor|intro hc;try simp only[A3] at hc
  refine ⟨_,_,rfl,rfl,?_⟩;simp [AE,A6,A5,A4,AP]
abbrev Js : List Nat:=[0,1,2,3,4,7,8,9,10,11,12,13,14,29]
theorem J8 (v : View) (what place : Int) (x : Item) (hb : v.base.length ≤ 1000) (hl : v.list.length ≤ 1000) (hs : x.key.length ≤ 9223372036854775807) : Go.Gar.Fn Tryz.prog 36 [v.d,.i .u8 what,.i .i64 place,x.d] (.tup [(CE v what place x).job.d,AW (CE v what place x).asks,.b (CE v what place x).own]):=by
 have c1:=VX what place x hs
 have c2:=Am v hb hl
 generalize hJ : CE v what place x = r
 unfold CE at hJ
 generalize J4 what place x = q at *
 obtain ⟨at_,y,b⟩:=q
 dsimp only at *
 have c3:=ZL v at_ hb hl
 generalize Wa v at_ = lk at *
 have c4:=JH v ⟨what,0,lk,y,0,[],0⟩ (by omega)
 unfold jE at c4
 unfold View.d View.cells at c2 c3
 unfold Look.d Look.cells at c3
 unfold Item.d Item.cells at c1
 refine A0 AB Tryz.func36 rfl rfl (Nat.le_of_ble_eq_true rfl) ?_
 unfold View.d View.cells Item.d Item.cells
 cases b with
 | false =>
  rw [Bool.false_and,if_neg (by decide)] at hJ
  subst hJ
  refine wd Js [] [] A1 (AD @c1) ?_;with_reducible repeat' first|constructor|intro hc;try simp only[A3] at hc
  refine ⟨_,_,rfl,rfl,?_⟩;simp [AE,A6,A5,A4,Job.d,Job.cells,GK,AP]
 | true =>
  rw [Bool.true_and] at hJ
  cases hR : AF v with
  | false =>
   rw [hR,if_neg (by decide)] at hJ
   rw [hR] at c2
   subst hJ
   refine wd Js [] [] A1 (Ao @c1 @c2) ?_;with_reducible repeat' first|constructor|intro hc;try simp only[A3] at hc
   refine ⟨_,_,rfl,rfl,?_⟩;simp [AE,A6,A5,A4,Job.d,Job.cells,GK,AP]
  | true =>
   rw [hR,if_pos rfl] at hJ
   rw [hR] at c2
   rw [hJ] at c4
   clear hJ
   unfold jC at c4
   refine wd Js [6] [] A1 (Bo @c1 @c2 @c3) ?_;with_reducible repeat' first|constructor|intro hc;try simp only[A3] at hc
   refine BN (A2.Ix 4 33 (.is []) rfl rfl rfl rfl trivial) (by simp) ?_
   have d1:=Ds.mk [4] (c4);refine wd Js [] [(2,6),(3,6),(4,6),(5,6)] A1 A1 ?_;clear d1;with_reducible repeat' first|constructor|intro hc;try simp only[A3] at hc
   refine ⟨_,_,rfl,rfl,?_⟩;simp [AE,A6,A5,A4,Job.d,Job.cells]
end Nd
end Go.Proofs.YtnahkfkljohjaaaGreatDoor
