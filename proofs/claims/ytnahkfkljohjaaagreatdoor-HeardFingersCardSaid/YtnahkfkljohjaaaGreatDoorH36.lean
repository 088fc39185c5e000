/- Part 36 of the texts of this proof, put together by a program and made short.
Conditions: none; what each theorem asks stands in its own hypotheses. -/
import Derived.Test.YtnahkfkljohjaaaGreatDoorH35
import Derived.Ground.SlgfProg
import Derived.Lib.SliceRun
import Derived.Shelf.SlicesE.DeleteFunc
import Derived.Sort.Walk0
import Derived.KernelRfl
import Derived.RangeFuncIn
import Derived.OpenShut
import Derived.ProofKit
import Derived.CallsIn
import Derived.RangeFuncLeaves
import Derived.OrdersIn
import Derived.TacticsIn
import Derived.ChangeKeysEq
import Derived.Laws.AppendOwn
import Derived.Laws.OwnMore
import Derived.Laws.MakeOwn
import Derived.Laws.Rows
import Derived.Laws.Cells
import Derived.Laws.Tables
import Derived.Laws.CopyRow
import Derived.Laws.Strings
import Derived.Laws.IdiomStrings
import Derived.Laws.BytesArg
import Derived.Sort.Grow
import Derived.Laws.Cover3
import Derived.RecoverIn
import Derived.Test.YtnahkfkljohjaaaGreatDoorProg
set_option linter.unusedSimpArgs false
set_option linter.unusedVariables false
set_option linter.unnecessarySimpa false
set_option maxHeartbeats 40000000
namespace Go.Proofs.YtnahkfkljohjaaaGreatDoor
namespace Nd
open Go.Gar
open Wi (A8 B0 Ak AX B8 mC)
set_option maxRecDepth 4000
abbrev Bh : List Nat:=[0,1,2,3,4,5,6,9,12,13,14,15,22,23,31,32,52,55,73]
abbrev Gm : List Nat:=[0,1,2,5,6,7,8,9,17]
theorem Z3 (n : Node) (j : Job) (ended : Bool) (l : List A8) (hl : l.length ≤ 100000) (hx0 : 0 ≤ n.next) (hx1 : n.next < 16) (hb1 : n.view.base.length ≤ 1000) (hb2 : n.view.list.length ≤ 1000) (hn : n.keep.length ≤ 1048576) (hs : j.item.key.length ≤ 9223372036854775807) (k : List Item) (i : Job) (hT : CN n.keep j = (k,i)) : B4 Tryz.prog 37 [.ptr 0 0 77,.d (.i .u8 5),.d (.b ended),.d j.d,.d (AW l),.d (.b true)] [.c (hC n .e0)] (.tup []) [.c (hC (if ended = false ∧ i.phase = 5 then D7 { n with keep:=k,finger:=i } else { n with keep:=k,finger:=i }) (.d (A9 (Al 5 l))))]:=by
 have c1:=Es n
 have c3:=FY 5 l
 have c2:=N6 n j hn hs
 rw [hT] at c2
 dsimp only at c2
 refine A7 AB Tryz.func37 rfl rfl (Nat.le_of_ble_eq_true rfl) ?_
 obtain ⟨N,hN⟩ : ∃ N : Node,N = { n with keep:=k,finger:=i }:=⟨_,rfl⟩
 rw [← hN]
 unfold hC Job.d Job.cells at *
 have d1:=Ds.mk [0] (c1);have d2:=Ds.mk [0,2] (c2);have d3:=Ds.mk [] (c3);refine wd Bh [] [] A1 A1 ?_;clear d3 d2 d1;with_reducible repeat' first|constructor|intro hc;try simp only[A3] at hc
 refine BN (A2.F9 0 76 (.sl 16 []) rfl rfl rfl rfl (by simp [A4])) (by simp) ?_
 refine Aq (K:=fun r _ H' => H' = gH N i 5 l (Al 5 l) ++ [.lp r]) rfl (by first | (simp only [AL,AJ,Nat.reduceAdd,Int.reduceAdd,Int.reduceSub,Int.reduceMul,Int.reduceToNat];done) | (simp only [AL,AJ,Nat.reduceAdd,Int.reduceAdd,Int.reduceSub,Int.reduceMul,Int.reduceToNat];rfl) | rfl) (by first | (simp only [AL,AJ,Nat.reduceAdd,Int.reduceAdd,Int.reduceSub,Int.reduceMul,Int.reduceToNat];done) | (simp only [AL,AJ,Nat.reduceAdd,Int.reduceAdd,Int.reduceSub,Int.reduceMul,Int.reduceToNat];rfl) | rfl) (fun r => (by first | (simp only [AL,AJ,Nat.reduceAdd,Int.reduceAdd,Int.reduceSub,Int.reduceMul,Int.reduceToNat];done) | (simp only [AL,AJ,Nat.reduceAdd,Int.reduceAdd,Int.reduceSub,Int.reduceMul,Int.reduceToNat];rfl) | rfl)) ?_ ?_
 ·intro r hr
  have hk:=hr.ok (k:=6) rfl
  have hY : ∀ (x : A8) (a : List (A8 × Int)),a.length ≤ 1000000 → YT Tryz.prog 6 [.d (.agg (B3 (x,5)))] (gH N i 5 l a ++ [.lp r,.c (mX x)]) fun v K => v = .d (.b true) ∧ K = gH N i 5 l (a ++ [(x,5)]) ++ [.lp r,.c (mX x)]:=by
   intro x a ha
   refine Aj hr rfl rfl rfl ?_
   unfold B3 mX
   unfold gH hC
   simp only [List.cons_append,List.nil_append]
   refine wd Bh [] [] A1 A1 ?_;with_reducible repeat' first|constructor|intro hc;try simp only[A3] at hc
   refine ⟨rfl,Bl (by first | (simp only [AL,AJ,Nat.reduceAdd,Int.reduceAdd,Int.reduceSub,Int.reduceMul,Int.reduceToNat];done) | (simp only [AL,AJ,Nat.reduceAdd,Int.reduceAdd,Int.reduceSub,Int.reduceMul,Int.reduceToNat];rfl) | rfl) ?_⟩
   refine wd Bh [] [(0,6),(1,6),(2,6),(3,6),(4,6),(0,7)] A1 A1 ?_;with_reducible repeat' first|constructor|intro hc;try simp only[A3] at hc
   refine ⟨⟨[],[.c (hC N (.sl 5 (a ++ [(x,5)]).length 16)),.c [.ptr 0 0 77],.c (FW i (.d (.is i.left))),.c [.d (.i .u8 5)],.c [.d (AW l)],.a (A9 (a ++ [(x,5)])),.lp r.busy,.c (mX x)],_⟩,(A2.cut rfl (by repeat' (first | exact True.intro | refine And.intro (by (first | rfl | ((with_reducible_and_instances refine congrArg (fun z => some (AV.d (D.i _ z))) ?_);omega) | (refine congrArg (fun z => some (AV.d (D.i _ z))) (?_ : (_ : Int) = _);omega) | (refine congrArg some ?_;simp only [A9,B3,List.map_append,List.map_cons,List.map_nil,List.length_append,List.length_cons,List.length_nil,List.length_map];done) | (refine congrArg some ?_;simp [A9,B3,List.map_append,List.map_cons,List.map_nil,List.length_append,List.length_cons,List.length_nil,List.length_map];done))) ?_)) (by repeat' (first | exact True.intro | refine And.intro (Or.inr rfl) ?_ | refine And.intro (Or.inl ⟨rfl,rfl⟩) ?_ | refine And.intro (Or.inr (by simp only [A9,B3,List.map_append,List.map_cons,List.map_nil,List.length_append,List.length_cons,List.length_nil,List.length_map])) ?_ | refine And.intro (Or.inr (by simp [A9,B3,List.map_append,List.map_cons,List.map_nil,List.length_append,List.length_cons,List.length_nil,List.length_map])) ?_)) (by first | rfl | (simp (decide:=true) [Ae,AC.ok,AV.oks,AV.ok,hk];done)) rfl),Nat.le_refl _,rfl,rfl,rfl⟩
  refine Ap AB Tryz.func148 rfl rfl (Nat.le_of_ble_eq_true rfl) ?_
  refine wk Gm [] A1 A1 ?_;with_reducible repeat' first|constructor|intro hc;try simp only[A3] at hc
  refine C6 (fun k : Nat => k ≤ l.length) (fun k : Nat => [(8,.d (.i .i64 k))]) (fun k => [(0,.c (hC N (.sl 5 (Al 5 (l.take k)).length 16))),(5,.a (A9 (Al 5 (l.take k))))]) (fun k => l.length - k) 0 (Nat.zero_le _) (fun _ => rfl) (fun _ => rfl) ?_ ?_
  ·subst hN
   exact A2.ck rfl
  intro k0 hk0
  by_cases hkl : k0 < l.length
  ·obtain ⟨x,hx⟩:=AR hkl
   have hy:=hY x (Al 5 (l.take k0)) (by rw [List.length_map,List.length_take];omega)
   have e1 : Al 5 (l.take k0) ++ [(x,5)] = Al 5 (l.take (k0 + 1)):=by
    rw [AT hx];simp [Al]
   rw [e1] at hy
   unfold gH B3 mX at hy
   simp only [List.cons_append,List.nil_append] at hy
   have ix1:=hx;have q1:=@hy;refine wk Gm [] A1 A1 ?_;clear q1 ix1;with_reducible repeat' first|constructor|intro hc;try simp only[A3] at hc
   refine ⟨k0 + 1,hkl,by omega,Nat.le_refl _,?_⟩
   exact A2.ck rfl
  ·have e : k0 = l.length:=by omega
   subst e
   rw [List.take_length]
   refine wk Gm [] A1 A1 ?_;with_reducible repeat' first|constructor|intro hc;try simp only[A3] at hc
   exact ⟨_,A2.refl _,Nat.le_refl _,_,_,rfl,rfl,rfl⟩
 ·rintro r hr x H' rfl
  refine .inl ⟨rfl,?_⟩
  unfold gH hC
  simp only [List.cons_append,List.nil_append]
  have hv:=Rx n.view n.next i.owner hb1 hb2
  unfold View.d View.cells at hv
  subst hN
  dsimp only
  cases ended with
  | true =>
   refine wd Bh [] [] A1 A1 ?_;with_reducible repeat' first|constructor|intro hc;try simp only[A3] at hc
   exact ⟨⟨[],[.c (hC { n with keep:=k,finger:=i } (.d (A9 (Al 5 l))))],_⟩,A2.trans' (A2.freeze 5 (x:=A9 (Al 5 l)) rfl) (A2.cut rfl trivial ⟨.inr (DZ { n with keep:=k,finger:=i } (A9 (Al 5 l)) _ (by simp [A6])).symm,trivial⟩ rfl rfl) (Nat.le_of_ble_eq_true rfl),Nat.le_of_ble_eq_true rfl,_,_,rfl,rfl,rfl,rfl⟩
  | false =>
   by_cases h5 : i.phase = 5
   ·have f5:=AA h5
    rw [if_pos ⟨rfl,h5⟩]
    by_cases hc : i.code = 0
    ·have fc:=AA hc
     have hg : D7 { n with keep:=k,finger:=i } = { { n with keep:=k,finger:=i } with view:=(FF n.view n.next i.owner).1,next:=(n.next + 1).tmod 16 }:=by
      unfold D7;dsimp only;rw [if_pos hc]
     rw [hg]
     have hq : (FF n.view n.next i.owner).2 = 0 ∨ ((FF n.view n.next i.owner).1 = n.view ∧ (FF n.view n.next i.owner).2 = 2):=by
      unfold FF;split
      ·exact .inl rfl
      ·exact .inr ⟨rfl,rfl⟩
     generalize FF n.view n.next i.owner = q at *
     obtain ⟨qv,qe⟩:=q
     dsimp only at hv hq ⊢
     rcases hq with rfl | ⟨rfl,rfl⟩
     ·refine wd Bh [12] [(0,16),(1,16),(2,16),(3,16),(4,16),(5,16),(6,16),(7,16),(8,16),(9,16),(10,16),(11,16),(15,17)] (Ao f5 fc) (AD @hv) ?_;with_reducible repeat' first|constructor|intro hc;try simp only[A3] at hc
      refine wd Bh [] [] A1 A1 ?_;with_reducible repeat' first|constructor|intro hc;try simp only[A3] at hc
      exact ⟨⟨[],[.c (hC { { n with keep:=k,finger:=i } with view:=qv,next:=(n.next + 1).tmod 16 } (.d (A9 (Al 5 l))))],_⟩,A2.trans' (A2.freeze 5 (x:=A9 (Al 5 l)) rfl) (A2.cut rfl trivial ⟨.inr (DZ { { n with keep:=k,finger:=i } with view:=qv,next:=(n.next + 1).tmod 16 } (A9 (Al 5 l)) _ (by simp [A6])).symm,trivial⟩ rfl rfl) (Nat.le_of_ble_eq_true rfl),Nat.le_of_ble_eq_true rfl,_,_,rfl,rfl,rfl,rfl⟩
     ·refine wd Bh [12] [(0,16),(1,16),(2,16),(3,16),(4,16),(5,16),(6,16),(7,16),(8,16),(9,16),(10,16),(11,16),(15,17)] (Ao f5 fc) (AD @hv) ?_;with_reducible repeat' first|constructor|intro hc;try simp only[A3] at hc
      refine wd Bh [] [] A1 A1 ?_;with_reducible repeat' first|constructor|intro hc;try simp only[A3] at hc
      exact ⟨⟨[],[.c (hC { { n with keep:=k,finger:=i } with next:=(n.next + 1).tmod 16 } (.d (A9 (Al 5 l))))],_⟩,A2.trans' (A2.freeze 5 (x:=A9 (Al 5 l)) rfl) (A2.cut rfl trivial ⟨.inr (DZ { { n with keep:=k,finger:=i } with next:=(n.next + 1).tmod 16 } (A9 (Al 5 l)) _ (by simp [A6])).symm,trivial⟩ rfl rfl) (Nat.le_of_ble_eq_true rfl),Nat.le_of_ble_eq_true rfl,_,_,rfl,rfl,rfl,rfl⟩
    ·have fc:=eq_false' hc
     have hg : D7 { n with keep:=k,finger:=i } = { { n with keep:=k,finger:=i } with next:=(n.next + 1).tmod 16 }:=by
      unfold D7;dsimp only;rw [if_neg hc]
     rw [hg]
     dsimp only
     refine wd Bh [] [] (Ao f5 fc) A1 ?_;with_reducible repeat' first|constructor|intro hc;try simp only[A3] at hc
     exact ⟨⟨[],[.c (hC { { n with keep:=k,finger:=i } with next:=(n.next + 1).tmod 16 } (.d (A9 (Al 5 l))))],_⟩,A2.trans' (A2.freeze 5 (x:=A9 (Al 5 l)) rfl) (A2.cut rfl trivial ⟨.inr (DZ { { n with keep:=k,finger:=i } with next:=(n.next + 1).tmod 16 } (A9 (Al 5 l)) _ (by simp [A6])).symm,trivial⟩ rfl rfl) (Nat.le_of_ble_eq_true rfl),Nat.le_of_ble_eq_true rfl,_,_,rfl,rfl,rfl,rfl⟩
   ·have f5:=eq_false' h5
    rw [if_neg (fun h => h5 h.2)]
    refine wd Bh [] [] (AD f5) A1 ?_;with_reducible repeat' first|constructor|intro hc;try simp only[A3] at hc
    exact ⟨⟨[],[.c (hC { n with keep:=k,finger:=i } (.d (A9 (Al 5 l))))],_⟩,A2.trans' (A2.freeze 5 (x:=A9 (Al 5 l)) rfl) (A2.cut rfl trivial ⟨.inr (DZ { n with keep:=k,finger:=i } (A9 (Al 5 l)) _ (by simp [A6])).symm,trivial⟩ rfl rfl) (Nat.le_of_ble_eq_true rfl),Nat.le_of_ble_eq_true rfl,_,_,rfl,rfl,rfl,rfl⟩
theorem Ze (n : Node) (j : Job) (ended : Bool) (l : List A8) (hl : l.length ≤ 100000) (hx0 : 0 ≤ n.next) (hx1 : n.next < 16) (hb1 : n.view.base.length ≤ 1000) (hb2 : n.view.list.length ≤ 1000) : B4 Tryz.prog 37 [.ptr 0 0 77,.d (.i .u8 5),.d (.b ended),.d j.d,.d (AW l),.d (.b false)] [.c (hC n .e0)] (.tup []) [.c (hC (if ended = false ∧ j.phase = 5 then D7 { n with finger:=j } else { n with finger:=j }) (.d (A9 (Al 5 l))))]:=by
 have c1:=Es n
 have c3:=FY 5 l
 refine A7 AB Tryz.func37 rfl rfl (Nat.le_of_ble_eq_true rfl) ?_
 obtain ⟨N,hN⟩ : ∃ N : Node,N = { n with finger:=j }:=⟨_,rfl⟩
 rw [← hN]
 unfold hC Job.d Job.cells at *
 have d1:=Ds.mk [0] (c1);have d2:=Ds.mk [] (c3);refine wd Bh [] [] A1 A1 ?_;clear d2 d1;with_reducible repeat' first|constructor|intro hc;try simp only[A3] at hc
 refine BN (A2.F9 0 76 (.sl 16 []) rfl rfl rfl rfl (by simp [A4])) (by simp) ?_
 refine Aq (K:=fun r _ H' => H' = gH N j 5 l (Al 5 l) ++ [.lp r]) rfl (by first | (simp only [AL,AJ,Nat.reduceAdd,Int.reduceAdd,Int.reduceSub,Int.reduceMul,Int.reduceToNat];done) | (simp only [AL,AJ,Nat.reduceAdd,Int.reduceAdd,Int.reduceSub,Int.reduceMul,Int.reduceToNat];rfl) | rfl) (by first | (simp only [AL,AJ,Nat.reduceAdd,Int.reduceAdd,Int.reduceSub,Int.reduceMul,Int.reduceToNat];done) | (simp only [AL,AJ,Nat.reduceAdd,Int.reduceAdd,Int.reduceSub,Int.reduceMul,Int.reduceToNat];rfl) | rfl) (fun r => (by first | (simp only [AL,AJ,Nat.reduceAdd,Int.reduceAdd,Int.reduceSub,Int.reduceMul,Int.reduceToNat];done) | (simp only [AL,AJ,Nat.reduceAdd,Int.reduceAdd,Int.reduceSub,Int.reduceMul,Int.reduceToNat];rfl) | rfl)) ?_ ?_
 ·intro r hr
  have hk:=hr.ok (k:=6) rfl
  have hY : ∀ (x : A8) (a : List (A8 × Int)),a.length ≤ 1000000 → YT Tryz.prog 6 [.d (.agg (B3 (x,5)))] (gH N j 5 l a ++ [.lp r,.c (mX x)]) fun v K => v = .d (.b true) ∧ K = gH N j 5 l (a ++ [(x,5)]) ++ [.lp r,.c (mX x)]:=by
   intro x a ha
   refine Aj hr rfl rfl rfl ?_
   unfold B3 mX
   unfold gH hC
   simp only [List.cons_append,List.nil_append]
   refine wd Bh [] [] A1 A1 ?_;with_reducible repeat' first|constructor|intro hc;try simp only[A3] at hc
   refine ⟨rfl,Bl (by first | (simp only [AL,AJ,Nat.reduceAdd,Int.reduceAdd,Int.reduceSub,Int.reduceMul,Int.reduceToNat];done) | (simp only [AL,AJ,Nat.reduceAdd,Int.reduceAdd,Int.reduceSub,Int.reduceMul,Int.reduceToNat];rfl) | rfl) ?_⟩
   refine wd Bh [] [(0,6),(1,6),(2,6),(3,6),(4,6),(0,7)] A1 A1 ?_;with_reducible repeat' first|constructor|intro hc;try simp only[A3] at hc
   refine ⟨⟨[],[.c (hC N (.sl 5 (a ++ [(x,5)]).length 16)),.c [.ptr 0 0 77],.c (FW j (.d (.is j.left))),.c [.d (.i .u8 5)],.c [.d (AW l)],.a (A9 (a ++ [(x,5)])),.lp r.busy,.c (mX x)],_⟩,(A2.cut rfl (by repeat' (first | exact True.intro | refine And.intro (by (first | rfl | ((with_reducible_and_instances refine congrArg (fun z => some (AV.d (D.i _ z))) ?_);omega) | (refine congrArg (fun z => some (AV.d (D.i _ z))) (?_ : (_ : Int) = _);omega) | (refine congrArg some ?_;simp only [A9,B3,List.map_append,List.map_cons,List.map_nil,List.length_append,List.length_cons,List.length_nil,List.length_map];done) | (refine congrArg some ?_;simp [A9,B3,List.map_append,List.map_cons,List.map_nil,List.length_append,List.length_cons,List.length_nil,List.length_map];done))) ?_)) (by repeat' (first | exact True.intro | refine And.intro (Or.inr rfl) ?_ | refine And.intro (Or.inl ⟨rfl,rfl⟩) ?_ | refine And.intro (Or.inr (by simp only [A9,B3,List.map_append,List.map_cons,List.map_nil,List.length_append,List.length_cons,List.length_nil,List.length_map])) ?_ | refine And.intro (Or.inr (by simp [A9,B3,List.map_append,List.map_cons,List.map_nil,List.length_append,List.length_cons,List.length_nil,List.length_map])) ?_)) (by first | rfl | (simp (decide:=true) [Ae,AC.ok,AV.oks,AV.ok,hk];done)) rfl),Nat.le_refl _,rfl,rfl,rfl⟩
  refine Ap AB Tryz.func148 rfl rfl (Nat.le_of_ble_eq_true rfl) ?_
  refine wk Gm [] A1 A1 ?_;with_reducible repeat' first|constructor|intro hc;try simp only[A3] at hc
  refine C6 (fun k : Nat => k ≤ l.length) (fun k : Nat => [(8,.d (.i .i64 k))]) (fun k => [(0,.c (hC N (.sl 5 (Al 5 (l.take k)).length 16))),(5,.a (A9 (Al 5 (l.take k))))]) (fun k => l.length - k) 0 (Nat.zero_le _) (fun _ => rfl) (fun _ => rfl) ?_ ?_
  ·subst hN
   exact A2.ck rfl
  intro k0 hk0
  by_cases hkl : k0 < l.length
  ·obtain ⟨x,hx⟩:=AR hkl
   have hy:=hY x (Al 5 (l.take k0)) (by rw [List.length_map,List.length_take];omega)
   have e1 : Al 5 (l.take k0) ++ [(x,5)] = Al 5 (l.take (k0 + 1)):=by
    rw [AT hx];simp [Al]
   rw [e1] at hy
   unfold gH B3 mX at hy
   simp only [List.cons_append,List.nil_append] at hy
   have ix1:=hx;have q1:=@hy;refine wk Gm [] A1 A1 ?_;clear q1 ix1;with_reducible repeat' first|constructor|intro hc;try simp only[A3] at hc
   refine ⟨k0 + 1,hkl,by omega,Nat.le_refl _,?_⟩
   exact A2.ck rfl
  ·have e : k0 = l.length:=by omega
   subst e
   rw [List.take_length]
   refine wk Gm [] A1 A1 ?_;with_reducible repeat' first|constructor|intro hc;try simp only[A3] at hc
   exact ⟨_,A2.refl _,Nat.le_refl _,_,_,rfl,rfl,rfl⟩
 ·rintro r hr x H' rfl
  refine .inl ⟨rfl,?_⟩
  unfold gH hC
  simp only [List.cons_append,List.nil_append]
  have hv:=Rx n.view n.next j.owner hb1 hb2
  unfold View.d View.cells at hv
  subst hN
  dsimp only
  cases ended with
  | true =>
   refine wd Bh [] [] A1 A1 ?_;with_reducible repeat' first|constructor|intro hc;try simp only[A3] at hc
   exact ⟨⟨[],[.c (hC { n with finger:=j } (.d (A9 (Al 5 l))))],_⟩,A2.trans' (A2.freeze 5 (x:=A9 (Al 5 l)) rfl) (A2.cut rfl trivial ⟨.inr (DZ { n with finger:=j } (A9 (Al 5 l)) _ (by simp [A6])).symm,trivial⟩ rfl rfl) (Nat.le_of_ble_eq_true rfl),Nat.le_of_ble_eq_true rfl,_,_,rfl,rfl,rfl,rfl⟩
  | false =>
   by_cases h5 : j.phase = 5
   ·have f5:=AA h5
    rw [if_pos ⟨rfl,h5⟩]
    by_cases hc : j.code = 0
    ·have fc:=AA hc
     have hg : D7 { n with finger:=j } = { { n with finger:=j } with view:=(FF n.view n.next j.owner).1,next:=(n.next + 1).tmod 16 }:=by
      unfold D7;dsimp only;rw [if_pos hc]
     rw [hg]
     have hq : (FF n.view n.next j.owner).2 = 0 ∨ ((FF n.view n.next j.owner).1 = n.view ∧ (FF n.view n.next j.owner).2 = 2):=by
      unfold FF;split
      ·exact .inl rfl
      ·exact .inr ⟨rfl,rfl⟩
     generalize FF n.view n.next j.owner = q at *
     obtain ⟨qv,qe⟩:=q
     dsimp only at hv hq ⊢
     rcases hq with rfl | ⟨rfl,rfl⟩
     ·refine wd Bh [12] [(0,16),(1,16),(2,16),(3,16),(4,16),(5,16),(6,16),(7,16),(8,16),(9,16),(10,16),(11,16),(15,17)] (Ao f5 fc) (AD @hv) ?_;with_reducible repeat' first|constructor|intro hc;try simp only[A3] at hc
      refine wd Bh [] [] A1 A1 ?_;with_reducible repeat' first|constructor|intro hc;try simp only[A3] at hc
      exact ⟨⟨[],[.c (hC { { n with finger:=j } with view:=qv,next:=(n.next + 1).tmod 16 } (.d (A9 (Al 5 l))))],_⟩,A2.trans' (A2.freeze 5 (x:=A9 (Al 5 l)) rfl) (A2.cut rfl trivial ⟨.inr (DZ { { n with finger:=j } with view:=qv,next:=(n.next + 1).tmod 16 } (A9 (Al 5 l)) _ (by simp [A6])).symm,trivial⟩ rfl rfl) (Nat.le_of_ble_eq_true rfl),Nat.le_of_ble_eq_true rfl,_,_,rfl,rfl,rfl,rfl⟩
     ·refine wd Bh [12] [(0,16),(1,16),(2,16),(3,16),(4,16),(5,16),(6,16),(7,16),(8,16),(9,16),(10,16),(11,16),(15,17)] (Ao f5 fc) (AD @hv) ?_;with_reducible repeat' first|constructor|intro hc;try simp only[A3] at hc
      refine wd Bh [] [] A1 A1 ?_;with_reducible repeat' first|constructor|intro hc;try simp only[A3] at hc
      exact ⟨⟨[],[.c (hC { { n with finger:=j } with next:=(n.next + 1).tmod 16 } (.d (A9 (Al 5 l))))],_⟩,A2.trans' (A2.freeze 5 (x:=A9 (Al 5 l)) rfl) (A2.cut rfl trivial ⟨.inr (DZ { { n with finger:=j } with next:=(n.next + 1).tmod 16 } (A9 (Al 5 l)) _ (by simp [A6])).symm,trivial⟩ rfl rfl) (Nat.le_of_ble_eq_true rfl),Nat.le_of_ble_eq_true rfl,_,_,rfl,rfl,rfl,rfl⟩
    ·have fc:=eq_false' hc
     have hg : D7 { n with finger:=j } = { { n with finger:=j } with next:=(n.next + 1).tmod 16 }:=by
      unfold D7;dsimp only;rw [if_neg hc]
     rw [hg]
     dsimp only
     refine wd Bh [] [] (Ao f5 fc) A1 ?_;with_reducible repeat' first|constructor|intro hc;try simp only[A3] at hc
     exact ⟨⟨[],[.c (hC { { n with finger:=j } with next:=(n.next + 1).tmod 16 } (.d (A9 (Al 5 l))))],_⟩,A2.trans' (A2.freeze 5 (x:=A9 (Al 5 l)) rfl) (A2.cut rfl trivial ⟨.inr (DZ { { n with finger:=j } with next:=(n.next + 1).tmod 16 } (A9 (Al 5 l)) _ (by simp [A6])).symm,trivial⟩ rfl rfl) (Nat.le_of_ble_eq_true rfl),Nat.le_of_ble_eq_true rfl,_,_,rfl,rfl,rfl,rfl⟩
   ·have f5:=eq_false' h5
    rw [if_neg (fun h => h5 h.2)]
    refine wd Bh [] [] (AD f5) A1 ?_;with_reducible repeat' first|constructor|intro hc;try simp only[A3] at hc
    exact ⟨⟨[],[.c (hC { n with finger:=j } (.d (A9 (Al 5 l))))],_⟩,A2.trans' (A2.freeze 5 (x:=A9 (Al 5 l)) rfl) (A2.cut rfl trivial ⟨.inr (DZ { n with finger:=j } (A9 (Al 5 l)) _ (by simp [A6])).symm,trivial⟩ rfl rfl) (Nat.le_of_ble_eq_true rfl),Nat.le_of_ble_eq_true rfl,_,_,rfl,rfl,rfl,rfl⟩
theorem HF (n : Node) (w : Int) (ended : Bool) (c : JC) (hw : w = 5 ∨ w = 6 ∨ w = 7) (hl : c.asks.length ≤ 100000) (hx0 : 0 ≤ n.next) (hx1 : n.next < 16) (hb1 : n.view.base.length ≤ 1000) (hb2 : n.view.list.length ≤ 1000) (hn : n.keep.length ≤ 1048576) (hs : c.job.item.key.length ≤ 9223372036854775807) : B4 Tryz.prog 37 [.ptr 0 0 77,.d (.i .u8 w),.d (.b ended),.d c.job.d,.d (AW c.asks),.d (.b c.own)] [.c (hC n .e0)] (.tup []) [.c (hC (AK n w ended c).1 (.d (A9 (AK n w ended c).2)))]:=by
 obtain ⟨j,l,own⟩:=c
 dsimp only at hl hs ⊢
 cases own with
 | true =>
  obtain ⟨k,i,hT⟩ : ∃ k i,CN n.keep j = (k,i):=⟨_,_,rfl⟩
  rcases hw with rfl | rfl | rfl
  ·have:=Z3 n j ended l hl hx0 hx1 hb1 hb2 hn hs k i hT
   by_cases hE : ended = false ∧ i.phase = 5
   ·rw [if_pos hE] at this
    unfold AK;simp only [if_true,hT]
    rw [if_pos (show True ∧ ended = false ∧ i.phase = 5 from ⟨trivial,hE⟩)]
    exact this
   ·rw [if_neg hE] at this
    unfold AK;simp only [if_true,hT]
    rw [if_neg (show ¬ (True ∧ ended = false ∧ i.phase = 5) from fun h => hE h.2)]
    exact this
  ·have:=Zo n j ended l hl hn hs k i hT
   unfold AK;simp only [if_true,hT]
   rw [if_neg (fun h => absurd h.1 (by decide))]
   exact this
  ·have:=Z7 n j ended l hl hn hs k i hT
   unfold AK;simp only [if_true,hT]
   rw [if_neg (fun h => absurd h.1 (by decide))]
   exact this
 | false =>
  rcases hw with rfl | rfl | rfl
  ·have:=Ze n j ended l hl hx0 hx1 hb1 hb2
   by_cases hE : ended = false ∧ j.phase = 5
   ·rw [if_pos hE] at this
    unfold AK;simp only [Bool.false_eq_true,if_false]
    rw [if_pos (show True ∧ ended = false ∧ j.phase = 5 from ⟨trivial,hE⟩)]
    exact this
   ·rw [if_neg hE] at this
    unfold AK;simp only [Bool.false_eq_true,if_false]
    rw [if_neg (show ¬ (True ∧ ended = false ∧ j.phase = 5) from fun h => hE h.2)]
    exact this
  ·have:=Z9 n j ended l hl
   unfold AK;simp only [Bool.false_eq_true,if_false]
   rw [if_neg (fun h => absurd h.1 (by decide))]
   exact this
  ·have:=Zu n j ended l hl
   unfold AK;simp only [Bool.false_eq_true,if_false]
   rw [if_neg (fun h => absurd h.1 (by decide))]
   exact this
end Nd
end Go.Proofs.YtnahkfkljohjaaaGreatDoor
