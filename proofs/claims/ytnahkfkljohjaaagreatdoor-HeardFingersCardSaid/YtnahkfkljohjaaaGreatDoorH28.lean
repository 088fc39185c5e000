/- Part 28 of the texts of this proof, put together by a program and made short.
Conditions: none; what each theorem asks stands in its own hypotheses. -/
import Derived.Test.YtnahkfkljohjaaaGreatDoorH26
import Derived.Test.YtnahkfkljohjaaaGreatDoorH27
import Derived.Sort.Walk0
import Derived.KernelRfl
import Derived.RangeFuncIn
import Derived.OpenShut
import Derived.ProofKit
import Derived.CallsIn
import Derived.RangeFuncLeaves
import Derived.OrdersIn
import Derived.TacticsIn
import Derived.ChangeKeysEq
import Derived.Laws.AppendOwn
import Derived.Laws.OwnMore
import Derived.Laws.MakeOwn
import Derived.Laws.Rows
import Derived.Laws.Cells
import Derived.Laws.Tables
import Derived.Laws.CopyRow
import Derived.Laws.Strings
import Derived.Laws.IdiomStrings
import Derived.Laws.BytesArg
import Derived.Sort.Grow
import Derived.Laws.Cover3
import Derived.RecoverIn
import Derived.Test.YtnahkfkljohjaaaGreatDoorProg
set_option linter.unusedSimpArgs false
set_option linter.unusedVariables false
set_option linter.unnecessarySimpa false
set_option maxHeartbeats 40000000
namespace Go.Proofs.YtnahkfkljohjaaaGreatDoor
namespace Nd
open Go.Gar
open Wi (A8 B0 Ak AX B8)
set_option maxRecDepth 4000
abbrev IC : List Nat:=[0,2,3,5,8,13,14,15]
abbrev NJ : List Nat:=[0,1,3,4,5,6,7,8,16]
abbrev Gu : List Nat:=[0,1,3,4,5,6,7,8,9,17,27,35,43]
theorem P4 (l : List Item) (h0 : 0 < l.length) (hn : l.length ≤ 1048576) : B4 Tryz.prog 75 [.d (AZ l)] [] (.sl 0 l.length 4) [.a (AZ l)]:=by
 have c1:=Ot l
 have f1:=eq_false' (show (l.length : Int) ≠ 0 by omega)
 refine A7 AB Tryz.func75 rfl rfl (Nat.le_of_ble_eq_true rfl) ?_
 have k1 : No 11:=trivial;have k2 : Dd ((AZ [])):=trivial;have d1:=Ds.mk [] (c1);refine wk IC [] (AD f1) A1 ?_;clear d1 k2 k1;with_reducible repeat' first|constructor|intro hc;try simp only[A3] at hc
 refine Aq (K:=fun r _ H' => H' = [.a (AZ l),.c [.sl 0 l.length 4],.c [.d (AZ l)],.lp r]) rfl (by first | (simp only [AL,AJ,Nat.reduceAdd,Int.reduceAdd,Int.reduceSub,Int.reduceMul,Int.reduceToNat];done) | (simp only [AL,AJ,Nat.reduceAdd,Int.reduceAdd,Int.reduceSub,Int.reduceMul,Int.reduceToNat];rfl) | rfl) (by first | (simp only [AL,AJ,Nat.reduceAdd,Int.reduceAdd,Int.reduceSub,Int.reduceMul,Int.reduceToNat];done) | (simp only [AL,AJ,Nat.reduceAdd,Int.reduceAdd,Int.reduceSub,Int.reduceMul,Int.reduceToNat];rfl) | rfl) (fun r => (by first | (simp only [AL,AJ,Nat.reduceAdd,Int.reduceAdd,Int.reduceSub,Int.reduceMul,Int.reduceToNat];done) | (simp only [AL,AJ,Nat.reduceAdd,Int.reduceAdd,Int.reduceSub,Int.reduceMul,Int.reduceToNat];rfl) | rfl)) ?_ ?_
 ·intro r hr
  have hk:=hr.ok (k:=3) rfl
  have hY : ∀ (k : Nat) (x : Item) (o : List Item),o.length ≤ 1048576 → YT Tryz.prog 3 [.d (.i .i64 k),.d (.agg [.s x.key,.i .i64 x.value,.i .i64 x.version,.b x.gone])] [.a (AZ o),.c [.sl 0 o.length 4],.c [.d (AZ l)],.lp r,.c [.d (.s x.key),.d (.i .i64 x.value),.d (.i .i64 x.version),.d (.b x.gone)]] fun v K => v = .d (.b true) ∧ K = [.a (AZ (o ++ [x])),.c [.sl 0 (o ++ [x]).length 4],.c [.d (AZ l)],.lp r,.c [.d (.s x.key),.d (.i .i64 x.value),.d (.i .i64 x.version),.d (.b x.gone)]]:=by
   intro k x o ho
   refine Aj hr rfl rfl rfl ?_
   refine wk IC [] A1 A1 ?_;with_reducible repeat' first|constructor|intro hc;try simp only[A3] at hc
   refine ⟨rfl,Bl (by first | (simp only [AL,AJ,Nat.reduceAdd,Int.reduceAdd,Int.reduceSub,Int.reduceMul,Int.reduceToNat];done) | (simp only [AL,AJ,Nat.reduceAdd,Int.reduceAdd,Int.reduceSub,Int.reduceMul,Int.reduceToNat];rfl) | rfl) ?_⟩
   refine wk IC [] A1 A1 ?_;with_reducible repeat' first|constructor|intro hc;try simp only[A3] at hc
   refine ⟨⟨[],[.a (AZ (o ++ [x])),.c [.sl 0 (o ++ [x]).length 4],.c [.d (AZ l)],.lp r.busy,.c [.d (.s x.key),.d (.i .i64 x.value),.d (.i .i64 x.version),.d (.b x.gone)]],_⟩,(A2.cut rfl (by repeat' (first | exact True.intro | refine And.intro (by (first | rfl | ((with_reducible_and_instances refine congrArg (fun z => some (AV.d (D.i _ z))) ?_);omega) | (refine congrArg (fun z => some (AV.d (D.i _ z))) (?_ : (_ : Int) = _);omega) | (refine congrArg some ?_;simp only [AZ,List.map_append,List.map_cons,List.map_nil,Item.cells,List.length_append,List.length_cons,List.length_nil,List.length_map];done) | (refine congrArg some ?_;simp [AZ,List.map_append,List.map_cons,List.map_nil,Item.cells,List.length_append,List.length_cons,List.length_nil,List.length_map];done))) ?_)) (by repeat' (first | exact True.intro | refine And.intro (Or.inr rfl) ?_ | refine And.intro (Or.inl ⟨rfl,rfl⟩) ?_ | refine And.intro (Or.inr (by simp only [AZ,List.map_append,List.map_cons,List.map_nil,Item.cells,List.length_append,List.length_cons,List.length_nil,List.length_map])) ?_ | refine And.intro (Or.inr (by simp [AZ,List.map_append,List.map_cons,List.map_nil,Item.cells,List.length_append,List.length_cons,List.length_nil,List.length_map])) ?_)) (by first | rfl | (simp (decide:=true) [Ae,AC.ok,AV.oks,AV.ok,hk];done)) rfl),Nat.le_refl _,rfl,rfl,rfl⟩
  refine Ap AB Tryz.func181 rfl rfl (Nat.le_of_ble_eq_true rfl) ?_
  refine wk NJ [] A1 A1 ?_;with_reducible repeat' first|constructor|intro hc;try simp only[A3] at hc
  refine C6 (fun j : Nat => j ≤ l.length) (fun j : Nat => [(7,.d (.i .i64 j))]) (fun j => [(0,.a (AZ (l.take j))),(1,.c [.sl 0 (l.take j).length 4])]) (fun j => l.length - j) 0 (Nat.zero_le _) (fun _ => rfl) (fun _ => rfl) ?_ ?_
  ·exact A2.ck rfl
  intro j hj
  by_cases hjl : j < l.length
  ·obtain ⟨x,hx⟩:=AR hjl
   have hy:=hY j x (l.take j) (by rw [List.length_take];omega)
   have hn:=AT hx
   rw [← hn] at hy
   have ix1:=hx;have q1:=@hy;refine wk NJ [] A1 A1 ?_;clear q1 ix1;with_reducible repeat' first|constructor|intro hc;try simp only[A3] at hc
   refine ⟨j + 1,hjl,by omega,Nat.le_refl _,?_⟩
   exact A2.ck rfl
  ·have e : j = l.length:=by omega
   subst e
   rw [List.take_length]
   refine wk NJ [] A1 A1 ?_;with_reducible repeat' first|constructor|intro hc;try simp only[A3] at hc
   exact ⟨_,A2.refl _,Nat.le_refl _,_,_,rfl,rfl,rfl⟩
 ·rintro r hr x H' rfl
  refine .inl ⟨rfl,?_⟩
  refine wk IC [] A1 A1 ?_;with_reducible repeat' first|constructor|intro hc;try simp only[A3] at hc
  exact ⟨⟨[(2,.sl 0 l.length 4)],[.a (AZ l)],_⟩,(A2.ck rfl),Nat.zero_le _,_,_,rfl,rfl,rfl,rfl⟩
theorem Rl (l : List Item) (hn : l.length ≤ 1048576) : Go.Gar.Fn Tryz.prog 75 [AZ l] (AZ l):=by
 by_cases h0 : 0 < l.length
 ·refine S7 (ds:=[AZ l]) (P4 l h0 hn) ?_
  simp [Q5,A6]
 ·have e : l = []:=List.length_eq_zero_iff.1 (by omega)
  subst e
  refine A0 AB Tryz.func75 rfl rfl (Nat.le_of_ble_eq_true rfl) ?_
  refine wk IC [] A1 A1 ?_;with_reducible repeat' first|constructor|intro hc;try simp only[A3] at hc
  refine ⟨_,_,rfl,rfl,?_⟩;simp [AE,A6,A5,A4]
theorem Ym : ∀ (l : List Item) (m : Nat),((l.map Item.cells).flatten).drop (m * 4) = ((l.drop m).map Item.cells).flatten
 | [],m => by simp
 | a :: l,0 => rfl
 | a :: l,m + 1 => by
  rw [List.map_cons,List.flatten_cons,Nat.add_mul,Nat.one_mul,Nat.add_comm,← List.drop_drop]
  show List.drop (m * 4) (List.drop 4 ([_,_,_,_] ++ _)) = _
  exact Ym l m
theorem V9 {l : List Item} {m : Nat} {y : Item} (hy : l[m]? = some y) : ((slc (AZ l)).drop (m * 4 + 0)).take 4 = y.cells:=by
 show (((l.map Item.cells).flatten).drop (m * 4 + 0)).take 4 = _
 have h:=(List.getElem?_eq_some_iff.1 hy).1
 rw [Nat.add_zero,Ym,List.drop_eq_getElem_cons h,List.map_cons,List.flatten_cons]
 have : l[m] = y:=(List.getElem?_eq_some_iff.1 hy).2
 rw [this];rfl
theorem LI (x : Item) : ∀ (m : Nat) (l : List Item),m < l.length → setRows 0 x.cells m (l.map Item.cells) = (l.set m x).map Item.cells
 | _,[],h => by simp at h
 | 0,a :: l,_ => rfl
 | m + 1,a :: l,h => by
  show a.cells :: setRows 0 x.cells m (l.map Item.cells) = _
  rw [LI x m l (by simpa using h)];rfl
theorem Xr (l : List Item) (x : Item) (hn : l.length ≤ 1048576) : Go.Gar.Fn Tryz.prog 146 [AZ l,x.d] (.tup [AZ (GZ l x).1,.i .i64 (GZ l x).2]):=by
 have c1:=Ml l (by omega)
 have c2:=Wi.Hz x
 have c3:=Rl l hn
 have hT : GZ l x = if Bd l && Ak x then
  (if hasK l x.key then (if HN x (l.getD (BX l x.key) AP) then l.set (BX l x.key) x else l,0)
   else if l.length ≥ 24 then (l,200) else (l.take (BX l x.key) ++ x :: l.drop (BX l x.key),0)) else (l,2):=rfl
 refine A0 AB Tryz.func146 rfl rfl (Nat.le_of_ble_eq_true rfl) ?_
 generalize Ak x = b2 at *
 cases h : Bd l with
 | false =>
  rw [h] at c1 hT
  rw [hT]
  refine wd Gu [] [] A1 (Ao @c1 @c3) ?_;with_reducible repeat' first|constructor|intro hc;try simp only[A3] at hc
  refine ⟨_,_,rfl,rfl,?_⟩;simp [AE,A6,A5,A4]
 | true =>
 have c4:=WY l x.key (Ch.1 h).2.2 hn
 rw [h] at c1 hT
 cases b2 with
 | false =>
  rw [hT]
  refine wd Gu [] [] A1 (Bo @c1 @c2 @c3) ?_;with_reducible repeat' first|constructor|intro hc;try simp only[A3] at hc
  refine ⟨_,_,rfl,rfl,?_⟩;simp [AE,A6,A5,A4]
 | true =>
 rw [Bool.true_and,if_pos rfl] at hT
 have hle:=PY l x.key
 cases hh : hasK l x.key with
 | true =>
  obtain ⟨y,hy,hyk,hyg⟩:=Fz hh
  rw [hh,if_pos rfl,hyg] at hT
  rw [hh] at c4
  have hlt:=(List.getElem?_eq_some_iff.1 hy).1
  have c5:=P4 l (by omega) hn
  have c6:=Ty x y
  have hsl:=V9 hy
  have hst : setRows 0 [.s x.key,.i .i64 x.value,.i .i64 x.version,.b x.gone] (BX l x.key) (l.map Item.cells) = (l.set (BX l x.key) x).map Item.cells:=LI x _ l hlt
  rw [hT]
  unfold HN
  generalize BX l x.key = m at *
  unfold Item.d at c6
  rw [← hsl] at c6
  unfold Item.cells at c6
  cases hnw : decide (CS x y > 0) with
  | false =>
   rw [hnw] at c6
   have d1:=Ds.mk [] (c5);refine wd Gu [] [] A1 (GD @c1 @c2 @c4 @c6) ?_;clear d1;with_reducible repeat' first|constructor|intro hc;try simp only[A3] at hc
   refine ⟨_,_,rfl,rfl,?_⟩;simp [AE,A6,A5,A4]
  | true =>
   rw [hnw] at c6
   have d1:=Ds.mk [] (c5);refine wd Gu [7] [] A1 (GD @c1 @c2 @c4 @c6) ?_;clear d1;with_reducible repeat' first|constructor|intro hc;try simp only[A3] at hc
   have nS:=hst
   repeat' (first | ((with_reducible refine sg ?_);first | with_reducible rfl | ((with_reducible refine GC ?_);first | kernel_rfl | rfl | (simp [Ci,Do,nS];done)) | with_reducible refine G5 ?_ ?_ | with_reducible exact Nat.beq_refl _ | with_reducible exact BP _ | ((with_reducible refine decide_eq_true ?_);first | omega | (simp only [Dh,nS];omega)) | decide | (simp [Dh,slc,BC,D.one,Bt,AV.one,nS];done) | (simp [Dh,nS];omega)) | ((with_reducible refine aQ ?_);first | (refine Gz rfl ?_;refine aJ AB rfl rfl rfl rfl ?_) | refine Xq AB rfl rfl rfl rfl ?_ ?_ | refine Xn [0,1,3,4,5,6,7,8,9,17,27,35,43] rfl ?_ | refine Xa AB rfl rfl rfl rfl rfl ?_ ?_ | refine Xw AB rfl rfl rfl rfl ?_ ?_ | refine Xs rfl rfl rfl ?_ | (refine U0 rfl rfl (fun hc => ?_) (fun hc => ?_) <;> (fail_if_success (with_reducible first | exact tF hc | exact fT hc)) <;> (try simp only [A3] at hc) <;> (try (exfalso;omega)))) | ((with_reducible refine gWd ?_);first | (refine Ra rfl ?_;refine Ymv AB rfl rfl (fun _ => rfl) rfl rfl ?_) | refine Yp AB rfl rfl (fun _ => rfl) rfl rfl ?_ ?_ | refine Yq rfl rfl rfl rfl rfl ?_ ?_ | refine Ys rfl rfl rfl rfl ?_ | refine Ya AB rfl rfl rfl rfl rfl rfl ?_ ?_ | refine Yw AB rfl rfl rfl rfl rfl ?_ ?_ | refine Yn [0,1,3,4,5,6,7,8,9,17,27,35,43] [] mixed AB (by kernel_rfl) True.intro rfl ?_ | (refine W4 rfl rfl (fun hc => ?_) (fun hc => ?_) <;> (fail_if_success (with_reducible first | exact tF hc | exact fT hc)) <;> (try simp only [A3] at hc) <;> (try (exfalso;omega)))) | refine JU ?_ | refine GW ?_ | refine Ye T.get ?_ | (refine Xsc AB rfl rfl rfl rfl ?_ ?_) | refine Gl ?_ | refine JY ?_ | refine Ez ?_ | refine GJ ?_ | refine E6 rfl ?_ | refine E7 rfl ?_ | (refine Hm rfl (fun hc => ?_) (fun hc => ?_) <;> (try simp only [A3] at hc) <;> (try (exfalso;omega))))
   refine ⟨_,_,rfl,rfl,?_⟩;simp [AE,A6,A5,A4,hst]
 | false =>
 rw [hh,if_neg (by decide)] at hT
 rw [hh] at c4
 by_cases h24 : l.length ≥ 24
 ·have f1 : decide ((l.length : Int) ≥ 24) = true:=decide_eq_true (by omega)
  rw [if_pos h24] at hT
  rw [hT]
  refine wd Gu [] [] (AD f1) (GD @c1 @c2 @c3 @c4) ?_;with_reducible repeat' first|constructor|intro hc;try simp only[A3] at hc
  refine ⟨_,_,rfl,rfl,?_⟩;simp [AE,A6,A5,A4]
 ·have f1 : decide ((l.length : Int) ≥ 24) = false:=decide_eq_false (by omega)
  rw [if_neg h24] at hT
  rw [hT]
  generalize BX l x.key = m at *
  have k1 : No 49:=trivial;have k2 : Dd ((AZ [])):=trivial;refine wd Gu [] [] (AD f1) (GD @c1 @c2 @c3 @c4) ?_;clear k2 k1;with_reducible repeat' first|constructor|intro hc;try simp only[A3] at hc
  refine ⟨_,_,rfl,rfl,?_⟩;simp [AE,A6,A5,A4,List.map_take,List.map_drop,Item.cells]
end Nd
end Go.Proofs.YtnahkfkljohjaaaGreatDoor
