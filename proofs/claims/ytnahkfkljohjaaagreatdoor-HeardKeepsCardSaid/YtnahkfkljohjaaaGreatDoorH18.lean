/- Part 18 of the texts of this proof, put together by a program and made short.
Conditions: none; what each theorem asks stands in its own hypotheses. -/
import Derived.Test.YtnahkfkljohjaaaGreatDoorH13
import Derived.KernelRfl
import Derived.RangeFuncIn
import Derived.OpenShut
import Derived.ProofKit
import Derived.CallsIn
import Derived.RangeFuncLeaves
import Derived.OrdersIn
import Derived.TacticsIn
import Derived.ChangeKeysEq
import Derived.Laws.AppendOwn
import Derived.Laws.OwnMore
import Derived.Laws.MakeOwn
import Derived.Laws.Rows
import Derived.Laws.Cells
import Derived.Laws.Tables
import Derived.Laws.CopyRow
import Derived.Laws.Strings
import Derived.Laws.IdiomStrings
import Derived.Laws.BytesArg
import Derived.Sort.Grow
import Derived.Laws.Cover3
import Derived.RecoverIn
import Derived.Test.YtnahkfkljohjaaaGreatDoorProg
set_option linter.unusedSimpArgs false
set_option linter.unusedVariables false
set_option linter.unnecessarySimpa false
set_option maxHeartbeats 40000000
namespace Go.Proofs.YtnahkfkljohjaaaGreatDoor
open Go.Gar
set_option maxRecDepth 4000
abbrev EV : List Nat:=[0,1,3,4,5,6,8,9,12]
abbrev C7 : List Nat:=[0,1,4,5,6,7,8,14]
abbrev Fb : List Nat:=[0,2,3,4,6,7]
def Au (l : List Int) (d : Int) : List Int:=l.filter fun x => x != d
theorem M2 (l : List Int) (d : Int) : (Au l d).length ≤ l.length:=List.length_filter_le ..
theorem Up {l : List Int} {d : Int} {k : Nat} {x : Int} (hx : l[k]? = some x) (h : (x != d) = true) : Au (l.take (k + 1)) d = Au (l.take k) d ++ [x]:=by
 unfold Au;rw [AT hx,List.filter_append];simp [h]
theorem Sg {l : List Int} {d : Int} {k : Nat} {x : Int} (hx : l[k]? = some x) (h : (x != d) = false) : Au (l.take (k + 1)) d = Au (l.take k) d:=by
 unfold Au;rw [AT hx,List.filter_append];simp [h]
theorem KZ (l : List Int) : B4 Tryz.prog 155 [.d (.is l)] [] (.fn (.func 200) [] [.ptr 0 0 1]) [.c [.d (.is l)]]:=by
 refine A7 AB Tryz.func155 rfl rfl (Nat.le_of_ble_eq_true rfl) ?_
 refine wk [0,1,2] [] A1 A1 ?_;with_reducible repeat' first|constructor|intro hc;try simp only[A3] at hc
 exact ⟨_,(A2.ck rfl),Nat.zero_le _,_,_,rfl,rfl,rfl,rfl⟩
theorem WK (l : List Int) (d : Int) (hl : l.length ≤ 1000) :
  B4 Tryz.prog 111 [.d (.is l),.d (.i .i64 d)] [] (.sl 3 (Au l d).length 1) [.gone,.gone,.gone,.a (.is (Au l d))]:=by
 refine A7 AB Tryz.func111 rfl rfl (Nat.le_of_ble_eq_true rfl) ?_
 have d1:=Ds.mk [] (KZ l);refine wk EV [] A1 A1 ?_;clear d1;with_reducible repeat' first|constructor|intro hc;try simp only[A3] at hc
 refine BN (A2.F9 1 0 (.is []) rfl rfl rfl rfl trivial) (by simp) ?_
 refine Aq (K:=fun r _ H' => H' = [.c [.d (.i .i64 d)],.c [.sl 3 (Au l d).length 1],.c [.d (.is l)],.a (.is (Au l d)),.lp r]) rfl (by first | (simp only [AL,AJ,Nat.reduceAdd,Int.reduceAdd,Int.reduceSub,Int.reduceMul,Int.reduceToNat];done) | (simp only [AL,AJ,Nat.reduceAdd,Int.reduceAdd,Int.reduceSub,Int.reduceMul,Int.reduceToNat];rfl) | rfl) (by first | (simp only [AL,AJ,Nat.reduceAdd,Int.reduceAdd,Int.reduceSub,Int.reduceMul,Int.reduceToNat];done) | (simp only [AL,AJ,Nat.reduceAdd,Int.reduceAdd,Int.reduceSub,Int.reduceMul,Int.reduceToNat];rfl) | rfl) (fun r => (by first | (simp only [AL,AJ,Nat.reduceAdd,Int.reduceAdd,Int.reduceSub,Int.reduceMul,Int.reduceToNat];done) | (simp only [AL,AJ,Nat.reduceAdd,Int.reduceAdd,Int.reduceSub,Int.reduceMul,Int.reduceToNat];rfl) | rfl)) ?_ ?_
 ·intro r hr
  refine Ap AB Tryz.func200 rfl rfl (Nat.le_of_ble_eq_true rfl) ?_
  refine wk C7 [] A1 A1 ?_;with_reducible repeat' first|constructor|intro hc;try simp only[A3] at hc
  have hk:=hr.ok (k:=4) rfl
  refine BF (fun k => k ≤ l.length) (fun k : Nat => ⟨[(0,.yl 4),(1,.ptr 2 0 1),(5,.d (.is l)),(6,.d (.i .i64 l.length)),(7,.d (.i .i64 k))],[.c [.d (.i .i64 d)],.c [.sl 3 (Au (l.take k) d).length 1],.c [.d (.is l)],.a (.is (Au (l.take k) d)),.lp r],16⟩) (fun k => l.length - k) 0 (Nat.zero_le _) ?_ (Nat.le_refl _) ?_
  ·exact A2.cut rfl (by repeat' (first | exact True.intro | refine And.intro (by (first | rfl | ((with_reducible_and_instances refine congrArg (fun z => some (AV.d (D.i _ z))) ?_);omega) | (refine congrArg (fun z => some (AV.d (D.i _ z))) (?_ : (_ : Int) = _);omega) | (refine congrArg some ?_;simp only [List.take_zero,Au,List.filter_nil];done) | (refine congrArg some ?_;simp [List.take_zero,Au,List.filter_nil];done))) ?_)) (by repeat' (first | exact True.intro | refine And.intro (Or.inr rfl) ?_ | refine And.intro (Or.inl ⟨rfl,rfl⟩) ?_ | refine And.intro (Or.inr (by simp only [List.take_zero,Au,List.filter_nil])) ?_ | refine And.intro (Or.inr (by simp [List.take_zero,Au,List.filter_nil])) ?_)) (by first | rfl | (simp (decide:=true) [Ae,AC.ok,AV.oks,AV.ok,hk];done)) rfl
  intro k hkk
  have hle:=M2 (l.take k) d
  have htl : (l.take k).length ≤ k:=List.length_take_le _ _
  by_cases hkl : k < l.length
  ·obtain ⟨x,hx⟩:=AR hkl
   have gx:=Bv hx
   cases hT : (x != d) with
   | true =>
    have hn:=Up hx hT
    refine wk C7 [] (AD gx) A1 ?_;with_reducible repeat' first|constructor|intro hc;try simp only[A3] at hc
    refine Xy (x:=.d (.b true)) (H':=[.c [.d (.i .i64 d)],.c [.sl 3 (Au (l.take (k + 1)) d).length 1],.c [.d (.is l)],.a (.is (Au (l.take (k + 1)) d)),.lp r]) (Aj hr rfl rfl rfl ?_) rfl rfl rfl rfl rfl ?_
    ·refine wk EV [] A1 A1 ?_;with_reducible repeat' first|constructor|intro hc;try simp only[A3] at hc
     refine ⟨rfl,Bl (by first | (simp only [AL,AJ,Nat.reduceAdd,Int.reduceAdd,Int.reduceSub,Int.reduceMul,Int.reduceToNat];done) | (simp only [AL,AJ,Nat.reduceAdd,Int.reduceAdd,Int.reduceSub,Int.reduceMul,Int.reduceToNat];rfl) | rfl) ?_⟩
     refine wk EV [] (AD hT) A1 ?_;with_reducible repeat' first|constructor|intro hc;try simp only[A3] at hc
     refine ⟨_,A2.refl _,Nat.le_refl _,rfl,rfl,?_⟩
     simp only [hn,List.length_append,List.length_cons,List.length_nil,List.set_cons_succ,List.set_cons_zero]
    ·refine wk C7 [] A1 A1 ?_;with_reducible repeat' first|constructor|intro hc;try simp only[A3] at hc
     refine ⟨k + 1,hkl,by omega,Nat.le_refl _,?_⟩
     exact A2.cut rfl (by repeat' (first | exact True.intro | refine And.intro (by (first | rfl | ((with_reducible_and_instances refine congrArg (fun z => some (AV.d (D.i _ z))) ?_);omega) | (refine congrArg (fun z => some (AV.d (D.i _ z))) (?_ : (_ : Int) = _);omega) | (refine congrArg some ?_;simp only [hn];done) | (refine congrArg some ?_;simp [hn];done))) ?_)) (by repeat' (first | exact True.intro | refine And.intro (Or.inr rfl) ?_ | refine And.intro (Or.inl ⟨rfl,rfl⟩) ?_ | refine And.intro (Or.inr (by simp only [hn])) ?_ | refine And.intro (Or.inr (by simp [hn])) ?_)) (by first | rfl | (simp (decide:=true) [Ae,AC.ok,AV.oks,AV.ok,hk];done)) rfl
   | false =>
    have hn:=Sg hx hT
    refine wk C7 [] (AD gx) A1 ?_;with_reducible repeat' first|constructor|intro hc;try simp only[A3] at hc
    refine Xy (x:=.d (.b true)) (H':=[.c [.d (.i .i64 d)],.c [.sl 3 (Au (l.take (k + 1)) d).length 1],.c [.d (.is l)],.a (.is (Au (l.take (k + 1)) d)),.lp r]) (Aj hr rfl rfl rfl ?_) rfl rfl rfl rfl rfl ?_
    ·refine wk EV [] A1 A1 ?_;with_reducible repeat' first|constructor|intro hc;try simp only[A3] at hc
     refine ⟨rfl,Bl (by first | (simp only [AL,AJ,Nat.reduceAdd,Int.reduceAdd,Int.reduceSub,Int.reduceMul,Int.reduceToNat];done) | (simp only [AL,AJ,Nat.reduceAdd,Int.reduceAdd,Int.reduceSub,Int.reduceMul,Int.reduceToNat];rfl) | rfl) ?_⟩
     refine wk EV [] (AD hT) A1 ?_;with_reducible repeat' first|constructor|intro hc;try simp only[A3] at hc
     refine ⟨_,A2.refl _,Nat.le_refl _,rfl,rfl,?_⟩
     simp only [hn,List.set_cons_succ,List.set_cons_zero]
    ·refine wk C7 [] A1 A1 ?_;with_reducible repeat' first|constructor|intro hc;try simp only[A3] at hc
     refine ⟨k + 1,hkl,by omega,Nat.le_refl _,?_⟩
     exact A2.cut rfl (by repeat' (first | exact True.intro | refine And.intro (by (first | rfl | ((with_reducible_and_instances refine congrArg (fun z => some (AV.d (D.i _ z))) ?_);omega) | (refine congrArg (fun z => some (AV.d (D.i _ z))) (?_ : (_ : Int) = _);omega) | (refine congrArg some ?_;simp only [hn];done) | (refine congrArg some ?_;simp [hn];done))) ?_)) (by repeat' (first | exact True.intro | refine And.intro (Or.inr rfl) ?_ | refine And.intro (Or.inl ⟨rfl,rfl⟩) ?_ | refine And.intro (Or.inr (by simp only [hn])) ?_ | refine And.intro (Or.inr (by simp [hn])) ?_)) (by first | rfl | (simp (decide:=true) [Ae,AC.ok,AV.oks,AV.ok,hk];done)) rfl
  ·have e : k = l.length:=by omega
   subst e
   refine wk C7 [] A1 A1 ?_;with_reducible repeat' first|constructor|intro hc;try simp only[A3] at hc
   refine ⟨_,A2.refl _,Nat.le_refl _,_,_,rfl,rfl,?_⟩
   simp only [List.take_length]
 ·rintro r hr x H' rfl
  refine .inl ⟨rfl,?_⟩
  refine wk EV [] A1 A1 ?_;with_reducible repeat' first|constructor|intro hc;try simp only[A3] at hc
  exact ⟨⟨[(4,.sl 3 (Au l d).length 1)],[.gone,.gone,.gone,.a (.is (Au l d))],Tryz.f111.ntmps⟩,(A2.ck rfl),Nat.zero_le _,_,_,rfl,rfl,rfl,rfl⟩
theorem Wv (l : List Int) (d : Int) (hl : l.length ≤ 1000) : Go.Gar.Fn Tryz.prog 111 [.is l,.i .i64 d] (.is (Au l d)):=by
 refine S7 (ds:=[.is l,.i .i64 d]) (WK l d hl) ?_
 simp [Q5,A6]
def firstT : List Int → Int × Bool
 | [] => (0,false)
 | a :: _ => (a,true)
theorem Vp (l : List Int) (hl : l.length ≤ 100000) : Go.Gar.Fn Tryz.prog 157 [.is l] (.tup [.i .i64 (firstT l).1,.b (firstT l).2]):=by
 refine A0 AB Tryz.func157 rfl rfl (Nat.le_of_ble_eq_true rfl) ?_
 have d1:=Ds.mk [] (KZ l);refine wk Fb [] A1 A1 ?_;clear d1;with_reducible repeat' first|constructor|intro hc;try simp only[A3] at hc
 cases l with
 | nil =>
  refine Aq (K:=fun r _ H' => H' = [.c [.d (.i .i64 0)],.c [.d (.b false)],.c [.d (.is [])],.lp r]) rfl (by first | (simp only [AL,AJ,Nat.reduceAdd,Int.reduceAdd,Int.reduceSub,Int.reduceMul,Int.reduceToNat];done) | (simp only [AL,AJ,Nat.reduceAdd,Int.reduceAdd,Int.reduceSub,Int.reduceMul,Int.reduceToNat];rfl) | rfl) (by first | (simp only [AL,AJ,Nat.reduceAdd,Int.reduceAdd,Int.reduceSub,Int.reduceMul,Int.reduceToNat];done) | (simp only [AL,AJ,Nat.reduceAdd,Int.reduceAdd,Int.reduceSub,Int.reduceMul,Int.reduceToNat];rfl) | rfl) (fun r => (by first | (simp only [AL,AJ,Nat.reduceAdd,Int.reduceAdd,Int.reduceSub,Int.reduceMul,Int.reduceToNat];done) | (simp only [AL,AJ,Nat.reduceAdd,Int.reduceAdd,Int.reduceSub,Int.reduceMul,Int.reduceToNat];rfl) | rfl)) ?_ ?_
  ·intro r hr
   refine Ap AB Tryz.func200 rfl rfl (Nat.le_of_ble_eq_true rfl) ?_
   refine wk C7 [] A1 A1 ?_;with_reducible repeat' first|constructor|intro hc;try simp only[A3] at hc
   have hk:=hr.ok (k:=3) rfl
   refine BF (fun k => k = 0) (fun k : Nat => ⟨[(0,.yl 3),(1,.ptr 2 0 1),(5,.d (.is [])),(6,.d (.i .i64 0)),(7,.d (.i .i64 k))],[.c [.d (.i .i64 0)],.c [.d (.b false)],.c [.d (.is [])],.lp r],16⟩) (fun k => 0) 0 rfl ?_ (Nat.le_refl _) ?_
   ·exact A2.ck rfl
   rintro k rfl
   refine wk C7 [] A1 A1 ?_;with_reducible repeat' first|constructor|intro hc;try simp only[A3] at hc
   exact ⟨_,A2.refl _,Nat.le_refl _,_,_,rfl,rfl,rfl⟩
  ·rintro r hr x H' rfl
   refine .inl ⟨rfl,?_⟩
   refine wk Fb [] A1 A1 ?_;with_reducible repeat' first|constructor|intro hc;try simp only[A3] at hc
   refine ⟨_,_,rfl,rfl,?_⟩;simp [AE,A6,A5,A4,firstT]
 | cons a t =>
  refine Aq (K:=fun r _ H' => H' = [.c [.d (.i .i64 a)],.c [.d (.b true)],.c [.d (.is (a :: t))],.lp (r.left .ret)]) rfl (by first | (simp only [AL,AJ,Nat.reduceAdd,Int.reduceAdd,Int.reduceSub,Int.reduceMul,Int.reduceToNat];done) | (simp only [AL,AJ,Nat.reduceAdd,Int.reduceAdd,Int.reduceSub,Int.reduceMul,Int.reduceToNat];rfl) | rfl) (by first | (simp only [AL,AJ,Nat.reduceAdd,Int.reduceAdd,Int.reduceSub,Int.reduceMul,Int.reduceToNat];done) | (simp only [AL,AJ,Nat.reduceAdd,Int.reduceAdd,Int.reduceSub,Int.reduceMul,Int.reduceToNat];rfl) | rfl) (fun r => (by first | (simp only [AL,AJ,Nat.reduceAdd,Int.reduceAdd,Int.reduceSub,Int.reduceMul,Int.reduceToNat];done) | (simp only [AL,AJ,Nat.reduceAdd,Int.reduceAdd,Int.reduceSub,Int.reduceMul,Int.reduceToNat];rfl) | rfl)) ?_ ?_
  ·intro r hr
   refine Ap AB Tryz.func200 rfl rfl (Nat.le_of_ble_eq_true rfl) ?_
   refine wk C7 [] A1 A1 ?_;with_reducible repeat' first|constructor|intro hc;try simp only[A3] at hc
   have hk:=hr.ok (k:=3) rfl
   refine BF (fun k => k = 0) (fun k : Nat => ⟨[(0,.yl 3),(1,.ptr 2 0 1),(5,.d (.is (a :: t))),(6,.d (.i .i64 (a :: t).length)),(7,.d (.i .i64 k))],[.c [.d (.i .i64 0)],.c [.d (.b false)],.c [.d (.is (a :: t))],.lp r],16⟩) (fun k => 0) 0 rfl ?_ (Nat.le_refl _) ?_
   ·exact A2.ck rfl
   rintro k rfl
   have ga : (a :: t).getD 0 0 = a:=rfl
   refine wk C7 [] (AD ga) A1 ?_;with_reducible repeat' first|constructor|intro hc;try simp only[A3] at hc
   refine Xy (x:=.d (.b false)) (H':=[.c [.d (.i .i64 a)],.c [.d (.b true)],.c [.d (.is (a :: t))],.lp (r.left .ret)]) (Aj hr rfl rfl rfl ?_) rfl rfl rfl rfl rfl ?_
   ·refine wk Fb [] A1 A1 ?_;with_reducible repeat' first|constructor|intro hc;try simp only[A3] at hc
    refine ⟨rfl,Bl (by first | (simp only [AL,AJ,Nat.reduceAdd,Int.reduceAdd,Int.reduceSub,Int.reduceMul,Int.reduceToNat];done) | (simp only [AL,AJ,Nat.reduceAdd,Int.reduceAdd,Int.reduceSub,Int.reduceMul,Int.reduceToNat];rfl) | rfl) ?_⟩
    refine wk Fb [] A1 A1 ?_;with_reducible repeat' first|constructor|intro hc;try simp only[A3] at hc
    exact ⟨_,A2.refl _,Nat.le_refl _,rfl,rfl,rfl⟩
   ·refine wk C7 [] A1 A1 ?_;with_reducible repeat' first|constructor|intro hc;try simp only[A3] at hc
    exact ⟨_,A2.refl _,Nat.le_refl _,_,_,rfl,rfl,rfl⟩
  ·rintro r hr x H' rfl
   refine .inr ⟨.ret,rfl,?_⟩
   refine wk Fb [] A1 A1 ?_;with_reducible repeat' first|constructor|intro hc;try simp only[A3] at hc
   refine ⟨_,_,rfl,rfl,?_⟩;simp [AE,A6,A5,A4,firstT]
end Go.Proofs.YtnahkfkljohjaaaGreatDoor
