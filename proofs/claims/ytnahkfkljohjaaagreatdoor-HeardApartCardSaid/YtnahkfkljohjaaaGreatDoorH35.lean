/- Part 35 of the texts of this proof, put together by a program and made short.
Conditions: none; what each theorem asks stands in its own hypotheses. -/
import Derived.Test.YtnahkfkljohjaaaGreatDoorH25
import Derived.Test.YtnahkfkljohjaaaGreatDoorH33
import Derived.Ground.SlgfProg
import Derived.Lib.SliceRun
import Derived.Shelf.SlicesE.DeleteFunc
import Derived.Sort.Walk0
import Derived.KernelRfl
import Derived.RangeFuncIn
import Derived.OpenShut
import Derived.ProofKit
import Derived.CallsIn
import Derived.RangeFuncLeaves
import Derived.OrdersIn
import Derived.TacticsIn
import Derived.ChangeKeysEq
import Derived.Laws.AppendOwn
import Derived.Laws.OwnMore
import Derived.Laws.MakeOwn
import Derived.Laws.Rows
import Derived.Laws.Cells
import Derived.Laws.Tables
import Derived.Laws.CopyRow
import Derived.Laws.Strings
import Derived.Laws.IdiomStrings
import Derived.Laws.BytesArg
import Derived.Sort.Grow
import Derived.Laws.Cover3
import Derived.RecoverIn
import Derived.Test.YtnahkfkljohjaaaGreatDoorProg
set_option linter.unusedSimpArgs false
set_option linter.unusedVariables false
set_option linter.unnecessarySimpa false
set_option maxHeartbeats 40000000
namespace Go.Proofs.YtnahkfkljohjaaaGreatDoor
namespace Nd
open Go.Gar
open Wi (A8 B0 Ak AX B8 mC)
set_option maxRecDepth 4000
abbrev Bj : List Nat:=[0,1,2,3,4,5,6,9,12,13,14,15,22,23,31,32,52,55,73]
abbrev D1 : List Nat:=[0,1,2,5,6,7,8,9,17]
theorem FY (why : Int) (l : List A8) : B4 Tryz.prog 97 [.d (.i .u8 why),.d (AW l)] [] (.fn (.func 148) [] [.ptr 1 0 1,.ptr 0 0 1]) [.c [.d (.i .u8 why)],.c [.d (AW l)]]:=by
 refine A7 AB Tryz.func97 rfl rfl (Nat.le_of_ble_eq_true rfl) ?_
 refine wk [0,1,2,3,4] [] A1 A1 ?_;with_reducible repeat' first|constructor|intro hc;try simp only[A3] at hc
 exact ⟨_,(A2.ck rfl),Nat.zero_le _,_,_,rfl,rfl,rfl,rfl⟩
abbrev mX (x : A8) : List AV:=[.d (.i .u8 x.kind),.d (.i .i64 x.call),.d (.i .i64 x.src),.d (.i .i64 x.dst),.d (.i .i64 x.key),.d (.b x.slow),.d (.b x.done),.d (.i .i64 x.place),.d (.i .i64 x.pred),.d (.is x.list),.d (.s x.item.key),.d (.i .i64 x.item.value),.d (.i .i64 x.item.version),.d (.b x.item.gone),.d (.i .i64 x.code)]
abbrev Al (w : Int) (l : List A8) : List (A8 × Int):=l.map fun m => (m,w)
theorem DZ (n : Node) (x : D) (k : Nat) (h : k = A6 x) : AC.Cr 5 x (.c (hC n (.sl 5 k 16))) = .c (hC n (.d x)):=by
 have e : AV.Cr 5 x (.sl 5 k 16) = .d x:=by simp [AV.Cr,h]
 show AC.c (AV.Eu 5 x (hC n (.sl 5 k 16))) = _
 rw [Ga]
 show AC.c (hC n (AV.Cr 5 x (.sl 5 k 16))) = AC.c (hC n (.d x))
 rw [e]
abbrev gH (n : Node) (j : Job) (w : Int) (l : List A8) (a : List (A8 × Int)) : List AC:=[.c (hC n (.sl 5 a.length 16)),.c [.ptr 0 0 77],.c (FW j (.d (.is j.left))),.c [.d (.i .u8 w)],.c [.d (AW l)],.a (A9 a)]
theorem Zo (n : Node) (j : Job) (ended : Bool) (l : List A8) (hl : l.length ≤ 100000) (hn : n.keep.length ≤ 1048576) (hs : j.item.key.length ≤ 9223372036854775807) (k : List Item) (i : Job) (hT : CN n.keep j = (k,i)) : B4 Tryz.prog 37 [.ptr 0 0 77,.d (.i .u8 6),.d (.b ended),.d j.d,.d (AW l),.d (.b true)] [.c (hC n .e0)] (.tup []) [.c (hC { n with keep:=k,mirror:=i } (.d (A9 (Al 6 l))))]:=by
 have c1:=En n
 have c3:=FY 6 l
 have c2:=N6 n j hn hs
 rw [hT] at c2
 dsimp only at c2
 refine A7 AB Tryz.func37 rfl rfl (Nat.le_of_ble_eq_true rfl) ?_
 obtain ⟨N,hN⟩ : ∃ N : Node,N = { n with keep:=k,mirror:=i }:=⟨_,rfl⟩
 rw [← hN]
 unfold hC Job.d Job.cells at *
 have d1:=Ds.mk [0] (c1);have d2:=Ds.mk [0,2] (c2);have d3:=Ds.mk [] (c3);refine wd Bj [] [] A1 A1 ?_;clear d3 d2 d1;with_reducible repeat' first|constructor|intro hc;try simp only[A3] at hc
 refine BN (A2.F9 0 76 (.sl 16 []) rfl rfl rfl rfl (by simp [A4])) (by simp) ?_
 refine Aq (K:=fun r _ H' => H' = gH N i 6 l (Al 6 l) ++ [.lp r]) rfl (by first | (simp only [AL,AJ,Nat.reduceAdd,Int.reduceAdd,Int.reduceSub,Int.reduceMul,Int.reduceToNat];done) | (simp only [AL,AJ,Nat.reduceAdd,Int.reduceAdd,Int.reduceSub,Int.reduceMul,Int.reduceToNat];rfl) | rfl) (by first | (simp only [AL,AJ,Nat.reduceAdd,Int.reduceAdd,Int.reduceSub,Int.reduceMul,Int.reduceToNat];done) | (simp only [AL,AJ,Nat.reduceAdd,Int.reduceAdd,Int.reduceSub,Int.reduceMul,Int.reduceToNat];rfl) | rfl) (fun r => (by first | (simp only [AL,AJ,Nat.reduceAdd,Int.reduceAdd,Int.reduceSub,Int.reduceMul,Int.reduceToNat];done) | (simp only [AL,AJ,Nat.reduceAdd,Int.reduceAdd,Int.reduceSub,Int.reduceMul,Int.reduceToNat];rfl) | rfl)) ?_ ?_
 ·intro r hr
  have hk:=hr.ok (k:=6) rfl
  have hY : ∀ (x : A8) (a : List (A8 × Int)),a.length ≤ 1000000 → YT Tryz.prog 6 [.d (.agg (B3 (x,6)))] (gH N i 6 l a ++ [.lp r,.c (mX x)]) fun v K => v = .d (.b true) ∧ K = gH N i 6 l (a ++ [(x,6)]) ++ [.lp r,.c (mX x)]:=by
   intro x a ha
   refine Aj hr rfl rfl rfl ?_
   unfold B3 mX
   unfold gH hC
   simp only [List.cons_append,List.nil_append]
   refine wd Bj [] [] A1 A1 ?_;with_reducible repeat' first|constructor|intro hc;try simp only[A3] at hc
   refine ⟨rfl,Bl (by first | (simp only [AL,AJ,Nat.reduceAdd,Int.reduceAdd,Int.reduceSub,Int.reduceMul,Int.reduceToNat];done) | (simp only [AL,AJ,Nat.reduceAdd,Int.reduceAdd,Int.reduceSub,Int.reduceMul,Int.reduceToNat];rfl) | rfl) ?_⟩
   refine wd Bj [] [(0,6),(1,6),(2,6),(3,6),(4,6),(0,7)] A1 A1 ?_;with_reducible repeat' first|constructor|intro hc;try simp only[A3] at hc
   refine ⟨⟨[],[.c (hC N (.sl 5 (a ++ [(x,6)]).length 16)),.c [.ptr 0 0 77],.c (FW i (.d (.is i.left))),.c [.d (.i .u8 6)],.c [.d (AW l)],.a (A9 (a ++ [(x,6)])),.lp r.busy,.c (mX x)],_⟩,(A2.cut rfl (by repeat' (first | exact True.intro | refine And.intro (by (first | rfl | ((with_reducible_and_instances refine congrArg (fun z => some (AV.d (D.i _ z))) ?_);omega) | (refine congrArg (fun z => some (AV.d (D.i _ z))) (?_ : (_ : Int) = _);omega) | (refine congrArg some ?_;simp only [A9,B3,List.map_append,List.map_cons,List.map_nil,List.length_append,List.length_cons,List.length_nil,List.length_map];done) | (refine congrArg some ?_;simp [A9,B3,List.map_append,List.map_cons,List.map_nil,List.length_append,List.length_cons,List.length_nil,List.length_map];done))) ?_)) (by repeat' (first | exact True.intro | refine And.intro (Or.inr rfl) ?_ | refine And.intro (Or.inl ⟨rfl,rfl⟩) ?_ | refine And.intro (Or.inr (by simp only [A9,B3,List.map_append,List.map_cons,List.map_nil,List.length_append,List.length_cons,List.length_nil,List.length_map])) ?_ | refine And.intro (Or.inr (by simp [A9,B3,List.map_append,List.map_cons,List.map_nil,List.length_append,List.length_cons,List.length_nil,List.length_map])) ?_)) (by first | rfl | (simp (decide:=true) [Ae,AC.ok,AV.oks,AV.ok,hk];done)) rfl),Nat.le_refl _,rfl,rfl,rfl⟩
  refine Ap AB Tryz.func148 rfl rfl (Nat.le_of_ble_eq_true rfl) ?_
  refine wk D1 [] A1 A1 ?_;with_reducible repeat' first|constructor|intro hc;try simp only[A3] at hc
  refine C6 (fun k : Nat => k ≤ l.length) (fun k : Nat => [(8,.d (.i .i64 k))]) (fun k => [(0,.c (hC N (.sl 5 (Al 6 (l.take k)).length 16))),(5,.a (A9 (Al 6 (l.take k))))]) (fun k => l.length - k) 0 (Nat.zero_le _) (fun _ => rfl) (fun _ => rfl) ?_ ?_
  ·subst hN
   exact A2.ck rfl
  intro k0 hk0
  by_cases hkl : k0 < l.length
  ·obtain ⟨x,hx⟩:=AR hkl
   have hy:=hY x (Al 6 (l.take k0)) (by rw [List.length_map,List.length_take];omega)
   have e1 : Al 6 (l.take k0) ++ [(x,6)] = Al 6 (l.take (k0 + 1)):=by
    rw [AT hx];simp [Al]
   rw [e1] at hy
   unfold gH B3 mX at hy
   simp only [List.cons_append,List.nil_append] at hy
   have ix1:=hx;have q1:=@hy;refine wk D1 [] A1 A1 ?_;clear q1 ix1;with_reducible repeat' first|constructor|intro hc;try simp only[A3] at hc
   refine ⟨k0 + 1,hkl,by omega,Nat.le_refl _,?_⟩
   exact A2.ck rfl
  ·have e : k0 = l.length:=by omega
   subst e
   rw [List.take_length]
   refine wk D1 [] A1 A1 ?_;with_reducible repeat' first|constructor|intro hc;try simp only[A3] at hc
   exact ⟨_,A2.refl _,Nat.le_refl _,_,_,rfl,rfl,rfl⟩
 ·rintro r hr x H' rfl
  refine .inl ⟨rfl,?_⟩
  refine wd Bj [9] [] A1 A1 ?_;with_reducible repeat' first|constructor|intro hc;try simp only[A3] at hc
  unfold gH
  simp only [List.cons_append,List.nil_append]
  refine BN (A2.freeze 5 (x:=A9 (Al 6 l)) rfl) (by rw [Ca];exact Nat.le_refl _) ?_
  unfold hC at *
  simp only [J9,DN]
  simp only [AC.Cr,AV.Cr,AV.Eu,Hk,Nat.reduceEqDiff,Nat.reduceAdd,decide_true,decide_false,A6,List.length_cons,List.length_nil,List.length_map,if_true,if_false,reduceCtorEq]
  refine wd Bj [] [] A1 A1 ?_;with_reducible repeat' first|constructor|intro hc;try simp only[A3] at hc
  exact ⟨⟨[],[.c (hC N (.d (A9 (Al 6 l))))],_⟩,A2.cut rfl trivial ⟨.inr (DZ N (A9 (Al 6 l)) _ (by simp [A6])).symm,trivial⟩ rfl rfl,Nat.le_of_ble_eq_true rfl,_,_,rfl,rfl,rfl,rfl⟩
theorem Z9 (n : Node) (j : Job) (ended : Bool) (l : List A8) (hl : l.length ≤ 100000) : B4 Tryz.prog 37 [.ptr 0 0 77,.d (.i .u8 6),.d (.b ended),.d j.d,.d (AW l),.d (.b false)] [.c (hC n .e0)] (.tup []) [.c (hC { n with mirror:=j } (.d (A9 (Al 6 l))))]:=by
 have c1:=En n
 have c3:=FY 6 l
 refine A7 AB Tryz.func37 rfl rfl (Nat.le_of_ble_eq_true rfl) ?_
 obtain ⟨N,hN⟩ : ∃ N : Node,N = { n with mirror:=j }:=⟨_,rfl⟩
 rw [← hN]
 unfold hC Job.d Job.cells at *
 have d1:=Ds.mk [0] (c1);have d2:=Ds.mk [] (c3);refine wd Bj [] [] A1 A1 ?_;clear d2 d1;with_reducible repeat' first|constructor|intro hc;try simp only[A3] at hc
 refine BN (A2.F9 0 76 (.sl 16 []) rfl rfl rfl rfl (by simp [A4])) (by simp) ?_
 refine Aq (K:=fun r _ H' => H' = gH N j 6 l (Al 6 l) ++ [.lp r]) rfl (by first | (simp only [AL,AJ,Nat.reduceAdd,Int.reduceAdd,Int.reduceSub,Int.reduceMul,Int.reduceToNat];done) | (simp only [AL,AJ,Nat.reduceAdd,Int.reduceAdd,Int.reduceSub,Int.reduceMul,Int.reduceToNat];rfl) | rfl) (by first | (simp only [AL,AJ,Nat.reduceAdd,Int.reduceAdd,Int.reduceSub,Int.reduceMul,Int.reduceToNat];done) | (simp only [AL,AJ,Nat.reduceAdd,Int.reduceAdd,Int.reduceSub,Int.reduceMul,Int.reduceToNat];rfl) | rfl) (fun r => (by first | (simp only [AL,AJ,Nat.reduceAdd,Int.reduceAdd,Int.reduceSub,Int.reduceMul,Int.reduceToNat];done) | (simp only [AL,AJ,Nat.reduceAdd,Int.reduceAdd,Int.reduceSub,Int.reduceMul,Int.reduceToNat];rfl) | rfl)) ?_ ?_
 ·intro r hr
  have hk:=hr.ok (k:=6) rfl
  have hY : ∀ (x : A8) (a : List (A8 × Int)),a.length ≤ 1000000 → YT Tryz.prog 6 [.d (.agg (B3 (x,6)))] (gH N j 6 l a ++ [.lp r,.c (mX x)]) fun v K => v = .d (.b true) ∧ K = gH N j 6 l (a ++ [(x,6)]) ++ [.lp r,.c (mX x)]:=by
   intro x a ha
   refine Aj hr rfl rfl rfl ?_
   unfold B3 mX
   unfold gH hC
   simp only [List.cons_append,List.nil_append]
   refine wd Bj [] [] A1 A1 ?_;with_reducible repeat' first|constructor|intro hc;try simp only[A3] at hc
   refine ⟨rfl,Bl (by first | (simp only [AL,AJ,Nat.reduceAdd,Int.reduceAdd,Int.reduceSub,Int.reduceMul,Int.reduceToNat];done) | (simp only [AL,AJ,Nat.reduceAdd,Int.reduceAdd,Int.reduceSub,Int.reduceMul,Int.reduceToNat];rfl) | rfl) ?_⟩
   refine wd Bj [] [(0,6),(1,6),(2,6),(3,6),(4,6),(0,7)] A1 A1 ?_;with_reducible repeat' first|constructor|intro hc;try simp only[A3] at hc
   refine ⟨⟨[],[.c (hC N (.sl 5 (a ++ [(x,6)]).length 16)),.c [.ptr 0 0 77],.c (FW j (.d (.is j.left))),.c [.d (.i .u8 6)],.c [.d (AW l)],.a (A9 (a ++ [(x,6)])),.lp r.busy,.c (mX x)],_⟩,(A2.cut rfl (by repeat' (first | exact True.intro | refine And.intro (by (first | rfl | ((with_reducible_and_instances refine congrArg (fun z => some (AV.d (D.i _ z))) ?_);omega) | (refine congrArg (fun z => some (AV.d (D.i _ z))) (?_ : (_ : Int) = _);omega) | (refine congrArg some ?_;simp only [A9,B3,List.map_append,List.map_cons,List.map_nil,List.length_append,List.length_cons,List.length_nil,List.length_map];done) | (refine congrArg some ?_;simp [A9,B3,List.map_append,List.map_cons,List.map_nil,List.length_append,List.length_cons,List.length_nil,List.length_map];done))) ?_)) (by repeat' (first | exact True.intro | refine And.intro (Or.inr rfl) ?_ | refine And.intro (Or.inl ⟨rfl,rfl⟩) ?_ | refine And.intro (Or.inr (by simp only [A9,B3,List.map_append,List.map_cons,List.map_nil,List.length_append,List.length_cons,List.length_nil,List.length_map])) ?_ | refine And.intro (Or.inr (by simp [A9,B3,List.map_append,List.map_cons,List.map_nil,List.length_append,List.length_cons,List.length_nil,List.length_map])) ?_)) (by first | rfl | (simp (decide:=true) [Ae,AC.ok,AV.oks,AV.ok,hk];done)) rfl),Nat.le_refl _,rfl,rfl,rfl⟩
  refine Ap AB Tryz.func148 rfl rfl (Nat.le_of_ble_eq_true rfl) ?_
  refine wk D1 [] A1 A1 ?_;with_reducible repeat' first|constructor|intro hc;try simp only[A3] at hc
  refine C6 (fun k : Nat => k ≤ l.length) (fun k : Nat => [(8,.d (.i .i64 k))]) (fun k => [(0,.c (hC N (.sl 5 (Al 6 (l.take k)).length 16))),(5,.a (A9 (Al 6 (l.take k))))]) (fun k => l.length - k) 0 (Nat.zero_le _) (fun _ => rfl) (fun _ => rfl) ?_ ?_
  ·subst hN
   exact A2.ck rfl
  intro k0 hk0
  by_cases hkl : k0 < l.length
  ·obtain ⟨x,hx⟩:=AR hkl
   have hy:=hY x (Al 6 (l.take k0)) (by rw [List.length_map,List.length_take];omega)
   have e1 : Al 6 (l.take k0) ++ [(x,6)] = Al 6 (l.take (k0 + 1)):=by
    rw [AT hx];simp [Al]
   rw [e1] at hy
   unfold gH B3 mX at hy
   simp only [List.cons_append,List.nil_append] at hy
   have ix1:=hx;have q1:=@hy;refine wk D1 [] A1 A1 ?_;clear q1 ix1;with_reducible repeat' first|constructor|intro hc;try simp only[A3] at hc
   refine ⟨k0 + 1,hkl,by omega,Nat.le_refl _,?_⟩
   exact A2.ck rfl
  ·have e : k0 = l.length:=by omega
   subst e
   rw [List.take_length]
   refine wk D1 [] A1 A1 ?_;with_reducible repeat' first|constructor|intro hc;try simp only[A3] at hc
   exact ⟨_,A2.refl _,Nat.le_refl _,_,_,rfl,rfl,rfl⟩
 ·rintro r hr x H' rfl
  refine .inl ⟨rfl,?_⟩
  refine wd Bj [9] [] A1 A1 ?_;with_reducible repeat' first|constructor|intro hc;try simp only[A3] at hc
  unfold gH
  simp only [List.cons_append,List.nil_append]
  refine BN (A2.freeze 5 (x:=A9 (Al 6 l)) rfl) (by rw [Ca];exact Nat.le_refl _) ?_
  unfold hC at *
  simp only [J9,DN]
  simp only [AC.Cr,AV.Cr,AV.Eu,Hk,Nat.reduceEqDiff,Nat.reduceAdd,decide_true,decide_false,A6,List.length_cons,List.length_nil,List.length_map,if_true,if_false,reduceCtorEq]
  refine wd Bj [] [] A1 A1 ?_;with_reducible repeat' first|constructor|intro hc;try simp only[A3] at hc
  exact ⟨⟨[],[.c (hC N (.d (A9 (Al 6 l))))],_⟩,A2.cut rfl trivial ⟨.inr (DZ N (A9 (Al 6 l)) _ (by simp [A6])).symm,trivial⟩ rfl rfl,Nat.le_of_ble_eq_true rfl,_,_,rfl,rfl,rfl,rfl⟩
theorem Z7 (n : Node) (j : Job) (ended : Bool) (l : List A8) (hl : l.length ≤ 100000) (hn : n.keep.length ≤ 1048576) (hs : j.item.key.length ≤ 9223372036854775807) (k : List Item) (i : Job) (hT : CN n.keep j = (k,i)) : B4 Tryz.prog 37 [.ptr 0 0 77,.d (.i .u8 7),.d (.b ended),.d j.d,.d (AW l),.d (.b true)] [.c (hC n .e0)] (.tup []) [.c (hC { n with keep:=k,client:=i } (.d (A9 (Al 7 l))))]:=by
 have c1:=Eh n
 have c3:=FY 7 l
 have c2:=N6 n j hn hs
 rw [hT] at c2
 dsimp only at c2
 refine A7 AB Tryz.func37 rfl rfl (Nat.le_of_ble_eq_true rfl) ?_
 obtain ⟨N,hN⟩ : ∃ N : Node,N = { n with keep:=k,client:=i }:=⟨_,rfl⟩
 rw [← hN]
 unfold hC Job.d Job.cells at *
 have d1:=Ds.mk [0] (c1);have d2:=Ds.mk [0,2] (c2);have d3:=Ds.mk [] (c3);refine wd Bj [] [] A1 A1 ?_;clear d3 d2 d1;with_reducible repeat' first|constructor|intro hc;try simp only[A3] at hc
 refine BN (A2.F9 0 76 (.sl 16 []) rfl rfl rfl rfl (by simp [A4])) (by simp) ?_
 refine Aq (K:=fun r _ H' => H' = gH N i 7 l (Al 7 l) ++ [.lp r]) rfl (by first | (simp only [AL,AJ,Nat.reduceAdd,Int.reduceAdd,Int.reduceSub,Int.reduceMul,Int.reduceToNat];done) | (simp only [AL,AJ,Nat.reduceAdd,Int.reduceAdd,Int.reduceSub,Int.reduceMul,Int.reduceToNat];rfl) | rfl) (by first | (simp only [AL,AJ,Nat.reduceAdd,Int.reduceAdd,Int.reduceSub,Int.reduceMul,Int.reduceToNat];done) | (simp only [AL,AJ,Nat.reduceAdd,Int.reduceAdd,Int.reduceSub,Int.reduceMul,Int.reduceToNat];rfl) | rfl) (fun r => (by first | (simp only [AL,AJ,Nat.reduceAdd,Int.reduceAdd,Int.reduceSub,Int.reduceMul,Int.reduceToNat];done) | (simp only [AL,AJ,Nat.reduceAdd,Int.reduceAdd,Int.reduceSub,Int.reduceMul,Int.reduceToNat];rfl) | rfl)) ?_ ?_
 ·intro r hr
  have hk:=hr.ok (k:=6) rfl
  have hY : ∀ (x : A8) (a : List (A8 × Int)),a.length ≤ 1000000 → YT Tryz.prog 6 [.d (.agg (B3 (x,7)))] (gH N i 7 l a ++ [.lp r,.c (mX x)]) fun v K => v = .d (.b true) ∧ K = gH N i 7 l (a ++ [(x,7)]) ++ [.lp r,.c (mX x)]:=by
   intro x a ha
   refine Aj hr rfl rfl rfl ?_
   unfold B3 mX
   unfold gH hC
   simp only [List.cons_append,List.nil_append]
   refine wd Bj [] [] A1 A1 ?_;with_reducible repeat' first|constructor|intro hc;try simp only[A3] at hc
   refine ⟨rfl,Bl (by first | (simp only [AL,AJ,Nat.reduceAdd,Int.reduceAdd,Int.reduceSub,Int.reduceMul,Int.reduceToNat];done) | (simp only [AL,AJ,Nat.reduceAdd,Int.reduceAdd,Int.reduceSub,Int.reduceMul,Int.reduceToNat];rfl) | rfl) ?_⟩
   refine wd Bj [] [(0,6),(1,6),(2,6),(3,6),(4,6),(0,7)] A1 A1 ?_;with_reducible repeat' first|constructor|intro hc;try simp only[A3] at hc
   refine ⟨⟨[],[.c (hC N (.sl 5 (a ++ [(x,7)]).length 16)),.c [.ptr 0 0 77],.c (FW i (.d (.is i.left))),.c [.d (.i .u8 7)],.c [.d (AW l)],.a (A9 (a ++ [(x,7)])),.lp r.busy,.c (mX x)],_⟩,(A2.cut rfl (by repeat' (first | exact True.intro | refine And.intro (by (first | rfl | ((with_reducible_and_instances refine congrArg (fun z => some (AV.d (D.i _ z))) ?_);omega) | (refine congrArg (fun z => some (AV.d (D.i _ z))) (?_ : (_ : Int) = _);omega) | (refine congrArg some ?_;simp only [A9,B3,List.map_append,List.map_cons,List.map_nil,List.length_append,List.length_cons,List.length_nil,List.length_map];done) | (refine congrArg some ?_;simp [A9,B3,List.map_append,List.map_cons,List.map_nil,List.length_append,List.length_cons,List.length_nil,List.length_map];done))) ?_)) (by repeat' (first | exact True.intro | refine And.intro (Or.inr rfl) ?_ | refine And.intro (Or.inl ⟨rfl,rfl⟩) ?_ | refine And.intro (Or.inr (by simp only [A9,B3,List.map_append,List.map_cons,List.map_nil,List.length_append,List.length_cons,List.length_nil,List.length_map])) ?_ | refine And.intro (Or.inr (by simp [A9,B3,List.map_append,List.map_cons,List.map_nil,List.length_append,List.length_cons,List.length_nil,List.length_map])) ?_)) (by first | rfl | (simp (decide:=true) [Ae,AC.ok,AV.oks,AV.ok,hk];done)) rfl),Nat.le_refl _,rfl,rfl,rfl⟩
  refine Ap AB Tryz.func148 rfl rfl (Nat.le_of_ble_eq_true rfl) ?_
  refine wk D1 [] A1 A1 ?_;with_reducible repeat' first|constructor|intro hc;try simp only[A3] at hc
  refine C6 (fun k : Nat => k ≤ l.length) (fun k : Nat => [(8,.d (.i .i64 k))]) (fun k => [(0,.c (hC N (.sl 5 (Al 7 (l.take k)).length 16))),(5,.a (A9 (Al 7 (l.take k))))]) (fun k => l.length - k) 0 (Nat.zero_le _) (fun _ => rfl) (fun _ => rfl) ?_ ?_
  ·subst hN
   exact A2.ck rfl
  intro k0 hk0
  by_cases hkl : k0 < l.length
  ·obtain ⟨x,hx⟩:=AR hkl
   have hy:=hY x (Al 7 (l.take k0)) (by rw [List.length_map,List.length_take];omega)
   have e1 : Al 7 (l.take k0) ++ [(x,7)] = Al 7 (l.take (k0 + 1)):=by
    rw [AT hx];simp [Al]
   rw [e1] at hy
   unfold gH B3 mX at hy
   simp only [List.cons_append,List.nil_append] at hy
   have ix1:=hx;have q1:=@hy;refine wk D1 [] A1 A1 ?_;clear q1 ix1;with_reducible repeat' first|constructor|intro hc;try simp only[A3] at hc
   refine ⟨k0 + 1,hkl,by omega,Nat.le_refl _,?_⟩
   exact A2.ck rfl
  ·have e : k0 = l.length:=by omega
   subst e
   rw [List.take_length]
   refine wk D1 [] A1 A1 ?_;with_reducible repeat' first|constructor|intro hc;try simp only[A3] at hc
   exact ⟨_,A2.refl _,Nat.le_refl _,_,_,rfl,rfl,rfl⟩
 ·rintro r hr x H' rfl
  refine .inl ⟨rfl,?_⟩
  refine wd Bj [9] [] A1 A1 ?_;with_reducible repeat' first|constructor|intro hc;try simp only[A3] at hc
  unfold gH
  simp only [List.cons_append,List.nil_append]
  refine BN (A2.freeze 5 (x:=A9 (Al 7 l)) rfl) (by rw [Ca];exact Nat.le_refl _) ?_
  unfold hC at *
  simp only [J9,DN]
  simp only [AC.Cr,AV.Cr,AV.Eu,Hk,Nat.reduceEqDiff,Nat.reduceAdd,decide_true,decide_false,A6,List.length_cons,List.length_nil,List.length_map,if_true,if_false,reduceCtorEq]
  refine wd Bj [] [] A1 A1 ?_;with_reducible repeat' first|constructor|intro hc;try simp only[A3] at hc
  exact ⟨⟨[],[.c (hC N (.d (A9 (Al 7 l))))],_⟩,A2.cut rfl trivial ⟨.inr (DZ N (A9 (Al 7 l)) _ (by simp [A6])).symm,trivial⟩ rfl rfl,Nat.le_of_ble_eq_true rfl,_,_,rfl,rfl,rfl,rfl⟩
theorem Zu (n : Node) (j : Job) (ended : Bool) (l : List A8) (hl : l.length ≤ 100000) : B4 Tryz.prog 37 [.ptr 0 0 77,.d (.i .u8 7),.d (.b ended),.d j.d,.d (AW l),.d (.b false)] [.c (hC n .e0)] (.tup []) [.c (hC { n with client:=j } (.d (A9 (Al 7 l))))]:=by
 have c1:=Eh n
 have c3:=FY 7 l
 refine A7 AB Tryz.func37 rfl rfl (Nat.le_of_ble_eq_true rfl) ?_
 obtain ⟨N,hN⟩ : ∃ N : Node,N = { n with client:=j }:=⟨_,rfl⟩
 rw [← hN]
 unfold hC Job.d Job.cells at *
 have d1:=Ds.mk [0] (c1);have d2:=Ds.mk [] (c3);refine wd Bj [] [] A1 A1 ?_;clear d2 d1;with_reducible repeat' first|constructor|intro hc;try simp only[A3] at hc
 refine BN (A2.F9 0 76 (.sl 16 []) rfl rfl rfl rfl (by simp [A4])) (by simp) ?_
 refine Aq (K:=fun r _ H' => H' = gH N j 7 l (Al 7 l) ++ [.lp r]) rfl (by first | (simp only [AL,AJ,Nat.reduceAdd,Int.reduceAdd,Int.reduceSub,Int.reduceMul,Int.reduceToNat];done) | (simp only [AL,AJ,Nat.reduceAdd,Int.reduceAdd,Int.reduceSub,Int.reduceMul,Int.reduceToNat];rfl) | rfl) (by first | (simp only [AL,AJ,Nat.reduceAdd,Int.reduceAdd,Int.reduceSub,Int.reduceMul,Int.reduceToNat];done) | (simp only [AL,AJ,Nat.reduceAdd,Int.reduceAdd,Int.reduceSub,Int.reduceMul,Int.reduceToNat];rfl) | rfl) (fun r => (by first | (simp only [AL,AJ,Nat.reduceAdd,Int.reduceAdd,Int.reduceSub,Int.reduceMul,Int.reduceToNat];done) | (simp only [AL,AJ,Nat.reduceAdd,Int.reduceAdd,Int.reduceSub,Int.reduceMul,Int.reduceToNat];rfl) | rfl)) ?_ ?_
 ·intro r hr
  have hk:=hr.ok (k:=6) rfl
  have hY : ∀ (x : A8) (a : List (A8 × Int)),a.length ≤ 1000000 → YT Tryz.prog 6 [.d (.agg (B3 (x,7)))] (gH N j 7 l a ++ [.lp r,.c (mX x)]) fun v K => v = .d (.b true) ∧ K = gH N j 7 l (a ++ [(x,7)]) ++ [.lp r,.c (mX x)]:=by
   intro x a ha
   refine Aj hr rfl rfl rfl ?_
   unfold B3 mX
   unfold gH hC
   simp only [List.cons_append,List.nil_append]
   refine wd Bj [] [] A1 A1 ?_;with_reducible repeat' first|constructor|intro hc;try simp only[A3] at hc
   refine ⟨rfl,Bl (by first | (simp only [AL,AJ,Nat.reduceAdd,Int.reduceAdd,Int.reduceSub,Int.reduceMul,Int.reduceToNat];done) | (simp only [AL,AJ,Nat.reduceAdd,Int.reduceAdd,Int.reduceSub,Int.reduceMul,Int.reduceToNat];rfl) | rfl) ?_⟩
   refine wd Bj [] [(0,6),(1,6),(2,6),(3,6),(4,6),(0,7)] A1 A1 ?_;with_reducible repeat' first|constructor|intro hc;try simp only[A3] at hc
   refine ⟨⟨[],[.c (hC N (.sl 5 (a ++ [(x,7)]).length 16)),.c [.ptr 0 0 77],.c (FW j (.d (.is j.left))),.c [.d (.i .u8 7)],.c [.d (AW l)],.a (A9 (a ++ [(x,7)])),.lp r.busy,.c (mX x)],_⟩,(A2.cut rfl (by repeat' (first | exact True.intro | refine And.intro (by (first | rfl | ((with_reducible_and_instances refine congrArg (fun z => some (AV.d (D.i _ z))) ?_);omega) | (refine congrArg (fun z => some (AV.d (D.i _ z))) (?_ : (_ : Int) = _);omega) | (refine congrArg some ?_;simp only [A9,B3,List.map_append,List.map_cons,List.map_nil,List.length_append,List.length_cons,List.length_nil,List.length_map];done) | (refine congrArg some ?_;simp [A9,B3,List.map_append,List.map_cons,List.map_nil,List.length_append,List.length_cons,List.length_nil,List.length_map];done))) ?_)) (by repeat' (first | exact True.intro | refine And.intro (Or.inr rfl) ?_ | refine And.intro (Or.inl ⟨rfl,rfl⟩) ?_ | refine And.intro (Or.inr (by simp only [A9,B3,List.map_append,List.map_cons,List.map_nil,List.length_append,List.length_cons,List.length_nil,List.length_map])) ?_ | refine And.intro (Or.inr (by simp [A9,B3,List.map_append,List.map_cons,List.map_nil,List.length_append,List.length_cons,List.length_nil,List.length_map])) ?_)) (by first | rfl | (simp (decide:=true) [Ae,AC.ok,AV.oks,AV.ok,hk];done)) rfl),Nat.le_refl _,rfl,rfl,rfl⟩
  refine Ap AB Tryz.func148 rfl rfl (Nat.le_of_ble_eq_true rfl) ?_
  refine wk D1 [] A1 A1 ?_;with_reducible repeat' first|constructor|intro hc;try simp only[A3] at hc
  refine C6 (fun k : Nat => k ≤ l.length) (fun k : Nat => [(8,.d (.i .i64 k))]) (fun k => [(0,.c (hC N (.sl 5 (Al 7 (l.take k)).length 16))),(5,.a (A9 (Al 7 (l.take k))))]) (fun k => l.length - k) 0 (Nat.zero_le _) (fun _ => rfl) (fun _ => rfl) ?_ ?_
  ·subst hN
   exact A2.ck rfl
  intro k0 hk0
  by_cases hkl : k0 < l.length
  ·obtain ⟨x,hx⟩:=AR hkl
   have hy:=hY x (Al 7 (l.take k0)) (by rw [List.length_map,List.length_take];omega)
   have e1 : Al 7 (l.take k0) ++ [(x,7)] = Al 7 (l.take (k0 + 1)):=by
    rw [AT hx];simp [Al]
   rw [e1] at hy
   unfold gH B3 mX at hy
   simp only [List.cons_append,List.nil_append] at hy
   have ix1:=hx;have q1:=@hy;refine wk D1 [] A1 A1 ?_;clear q1 ix1;with_reducible repeat' first|constructor|intro hc;try simp only[A3] at hc
   refine ⟨k0 + 1,hkl,by omega,Nat.le_refl _,?_⟩
   exact A2.ck rfl
  ·have e : k0 = l.length:=by omega
   subst e
   rw [List.take_length]
   refine wk D1 [] A1 A1 ?_;with_reducible repeat' first|constructor|intro hc;try simp only[A3] at hc
   exact ⟨_,A2.refl _,Nat.le_refl _,_,_,rfl,rfl,rfl⟩
 ·rintro r hr x H' rfl
  refine .inl ⟨rfl,?_⟩
  refine wd Bj [9] [] A1 A1 ?_;with_reducible repeat' first|constructor|intro hc;try simp only[A3] at hc
  unfold gH
  simp only [List.cons_append,List.nil_append]
  refine BN (A2.freeze 5 (x:=A9 (Al 7 l)) rfl) (by rw [Ca];exact Nat.le_refl _) ?_
  unfold hC at *
  simp only [J9,DN]
  simp only [AC.Cr,AV.Cr,AV.Eu,Hk,Nat.reduceEqDiff,Nat.reduceAdd,decide_true,decide_false,A6,List.length_cons,List.length_nil,List.length_map,if_true,if_false,reduceCtorEq]
  refine wd Bj [] [] A1 A1 ?_;with_reducible repeat' first|constructor|intro hc;try simp only[A3] at hc
  exact ⟨⟨[],[.c (hC N (.d (A9 (Al 7 l))))],_⟩,A2.cut rfl trivial ⟨.inr (DZ N (A9 (Al 7 l)) _ (by simp [A6])).symm,trivial⟩ rfl rfl,Nat.le_of_ble_eq_true rfl,_,_,rfl,rfl,rfl,rfl⟩
abbrev GR : AV:=.fn (.func 38) [] [.ptr 0 0 77,.ptr 1 0 15]
abbrev Da : AV:=.fn (.func 40) [] [.ptr 0 0 77,.ptr 1 0 15]
theorem Pr (n : Node) (m : A8) (w : Int) : B4 Tryz.prog 107 [.d (.i .u8 w),.ptr 3 0 1,.ptr 2 0 1] ([.c (hC n .e0),.c (mX m),.c [.ptr 0 0 77],.c [Da]]) (.fn (.func 108) [] [.ptr 3 0 1,.ptr 4 0 1,.ptr 2 0 1]) ([.c (hC n .e0),.c (mX m),.c [.ptr 0 0 77],.c [Da],.c [.d (.i .u8 w)]]):=by
 refine A7 AB Tryz.func107 rfl rfl (Nat.le_of_ble_eq_true rfl) ?_
 refine wk [0,1,2,3,4] [] A1 A1 ?_;with_reducible repeat' first|constructor|intro hc;try simp only[A3] at hc
 exact ⟨_,(A2.ck rfl),Nat.le_of_ble_eq_true rfl,_,_,rfl,rfl,rfl,rfl⟩
abbrev Hw : List (D × AV):=[(.i .u8 1,GR),(.i .u8 2,GR),(.i .u8 3,GR),(.i .u8 5,.fn (.func 108) [] [.ptr 3 0 1,.ptr 5 0 1,.ptr 2 0 1]),(.i .u8 6,.fn (.func 108) [] [.ptr 3 0 1,.ptr 6 0 1,.ptr 2 0 1]),(.i .u8 7,.fn (.func 108) [] [.ptr 3 0 1,.ptr 7 0 1,.ptr 2 0 1])]
theorem Bs (n : Node) (m : A8) : B4 Tryz.prog 42 [.ptr 0 0 77,GR,Da] ([.c (hC n .e0),.c (mX m)]) (.mp 4) ([.c (hC n .e0),.c (mX m),.c [.ptr 0 0 77],.c [Da],.m Hw,.c [.d (.i .u8 5)],.c [.d (.i .u8 6)],.c [.d (.i .u8 7)]]):=by
 have c5:=Pr n m 5
 have c6:=Pr n m 6
 have c7:=Pr n m 7
 refine A7 AB Tryz.func42 rfl rfl (Nat.le_of_ble_eq_true rfl) ?_
 have d1:=Ds.mk [0,1,2,3] (c5);have d2:=Ds.mk [0,1,2,3] (c6);have d3:=Ds.mk [0,1,2,3] (c7);refine wk [0,1,2,3,5,6,7] [] A1 A1 ?_;clear d3 d2 d1;with_reducible repeat' first|constructor|intro hc;try simp only[A3] at hc
 exact ⟨_,(A2.ck rfl),Nat.le_of_ble_eq_true rfl,_,_,rfl,rfl,rfl,rfl⟩
abbrev GG : AV:=.fn (.func 43) [] [.ptr 0 0 77,.ptr 1 0 1]
abbrev DL : AV:=.fn (.func 45) [] [.ptr 0 0 77,.ptr 1 0 1]
theorem QO (n : Node) (d : Int) (w : Int) : B4 Tryz.prog 107 [.d (.i .u8 w),.ptr 3 0 1,.ptr 2 0 1] ([.c (hC n .e0),.c ([.d (.i .i64 d)]),.c [.ptr 0 0 77],.c [DL]]) (.fn (.func 108) [] [.ptr 3 0 1,.ptr 4 0 1,.ptr 2 0 1]) ([.c (hC n .e0),.c ([.d (.i .i64 d)]),.c [.ptr 0 0 77],.c [DL],.c [.d (.i .u8 w)]]):=by
 refine A7 AB Tryz.func107 rfl rfl (Nat.le_of_ble_eq_true rfl) ?_
 refine wk [0,1,2,3,4] [] A1 A1 ?_;with_reducible repeat' first|constructor|intro hc;try simp only[A3] at hc
 exact ⟨_,(A2.ck rfl),Nat.le_of_ble_eq_true rfl,_,_,rfl,rfl,rfl,rfl⟩
abbrev Hg : List (D × AV):=[(.i .u8 1,GG),(.i .u8 2,GG),(.i .u8 3,GG),(.i .u8 5,.fn (.func 108) [] [.ptr 3 0 1,.ptr 5 0 1,.ptr 2 0 1]),(.i .u8 6,.fn (.func 108) [] [.ptr 3 0 1,.ptr 6 0 1,.ptr 2 0 1]),(.i .u8 7,.fn (.func 108) [] [.ptr 3 0 1,.ptr 7 0 1,.ptr 2 0 1])]
theorem Bg (n : Node) (d : Int) : B4 Tryz.prog 42 [.ptr 0 0 77,GG,DL] ([.c (hC n .e0),.c ([.d (.i .i64 d)])]) (.mp 4) ([.c (hC n .e0),.c ([.d (.i .i64 d)]),.c [.ptr 0 0 77],.c [DL],.m Hg,.c [.d (.i .u8 5)],.c [.d (.i .u8 6)],.c [.d (.i .u8 7)]]):=by
 have c5:=QO n d 5
 have c6:=QO n d 6
 have c7:=QO n d 7
 refine A7 AB Tryz.func42 rfl rfl (Nat.le_of_ble_eq_true rfl) ?_
 have d1:=Ds.mk [0,1,2,3] (c5);have d2:=Ds.mk [0,1,2,3] (c6);have d3:=Ds.mk [0,1,2,3] (c7);refine wk [0,1,2,3,5,6,7] [] A1 A1 ?_;clear d3 d2 d1;with_reducible repeat' first|constructor|intro hc;try simp only[A3] at hc
 exact ⟨_,(A2.ck rfl),Nat.le_of_ble_eq_true rfl,_,_,rfl,rfl,rfl,rfl⟩
abbrev GT : AV:=.fn (.func 48) [] [.ptr 0 0 77]
abbrev De : AV:=.fn (.func 49) [] [.ptr 0 0 77]
theorem QU (n : Node)  (w : Int) : B4 Tryz.prog 107 [.d (.i .u8 w),.ptr 2 0 1,.ptr 1 0 1] ([.c (hC n .e0),.c [.ptr 0 0 77],.c [De]]) (.fn (.func 108) [] [.ptr 2 0 1,.ptr 3 0 1,.ptr 1 0 1]) ([.c (hC n .e0),.c [.ptr 0 0 77],.c [De],.c [.d (.i .u8 w)]]):=by
 refine A7 AB Tryz.func107 rfl rfl (Nat.le_of_ble_eq_true rfl) ?_
 refine wk [0,1,2,3,4] [] A1 A1 ?_;with_reducible repeat' first|constructor|intro hc;try simp only[A3] at hc
 exact ⟨_,(A2.ck rfl),Nat.le_of_ble_eq_true rfl,_,_,rfl,rfl,rfl,rfl⟩
abbrev Iu : List (D × AV):=[(.i .u8 1,GT),(.i .u8 2,GT),(.i .u8 3,GT),(.i .u8 5,.fn (.func 108) [] [.ptr 2 0 1,.ptr 4 0 1,.ptr 1 0 1]),(.i .u8 6,.fn (.func 108) [] [.ptr 2 0 1,.ptr 5 0 1,.ptr 1 0 1]),(.i .u8 7,.fn (.func 108) [] [.ptr 2 0 1,.ptr 6 0 1,.ptr 1 0 1])]
theorem Bq (n : Node)  : B4 Tryz.prog 42 [.ptr 0 0 77,GT,De] ([.c (hC n .e0)]) (.mp 3) ([.c (hC n .e0),.c [.ptr 0 0 77],.c [De],.m Iu,.c [.d (.i .u8 5)],.c [.d (.i .u8 6)],.c [.d (.i .u8 7)]]):=by
 have c5:=QU n  5
 have c6:=QU n  6
 have c7:=QU n  7
 refine A7 AB Tryz.func42 rfl rfl (Nat.le_of_ble_eq_true rfl) ?_
 have d1:=Ds.mk [0,1,2] (c5);have d2:=Ds.mk [0,1,2] (c6);have d3:=Ds.mk [0,1,2] (c7);refine wk [0,1,2,3,5,6,7] [] A1 A1 ?_;clear d3 d2 d1;with_reducible repeat' first|constructor|intro hc;try simp only[A3] at hc
 exact ⟨_,(A2.ck rfl),Nat.le_of_ble_eq_true rfl,_,_,rfl,rfl,rfl,rfl⟩
end Nd
end Go.Proofs.YtnahkfkljohjaaaGreatDoor
