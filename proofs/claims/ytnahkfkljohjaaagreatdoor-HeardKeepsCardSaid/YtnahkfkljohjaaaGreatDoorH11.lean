/- Part 11 of the texts of this proof, put together by a program and made short.
Conditions: none; what each theorem asks stands in its own hypotheses. -/
import Derived.Test.YtnahkfkljohjaaaGreatDoorH09
import Derived.Test.YtnahkfkljohjaaaGreatDoorH10
import Derived.KernelRfl
import Derived.RangeFuncIn
import Derived.OpenShut
import Derived.ProofKit
import Derived.CallsIn
import Derived.RangeFuncLeaves
import Derived.OrdersIn
import Derived.TacticsIn
import Derived.ChangeKeysEq
import Derived.Laws.AppendOwn
import Derived.Laws.OwnMore
import Derived.Laws.MakeOwn
import Derived.Laws.Rows
import Derived.Laws.Cells
import Derived.Laws.Tables
import Derived.Laws.CopyRow
import Derived.Laws.Strings
import Derived.Laws.IdiomStrings
import Derived.Laws.BytesArg
import Derived.Sort.Grow
import Derived.Laws.Cover3
import Derived.RecoverIn
import Derived.Test.YtnahkfkljohjaaaGreatDoorProg
set_option linter.unusedSimpArgs false
set_option linter.unusedVariables false
set_option linter.unnecessarySimpa false
set_option maxHeartbeats 40000000
namespace Go.Proofs.YtnahkfkljohjaaaGreatDoor
open Go.Gar
set_option maxRecDepth 4000
abbrev DI : List Nat:=[0,1,4,5,9,44]
abbrev CR : List Nat:=[0,1,2,4,5,6,9,14,15,16,28]
abbrev DJ : List Nat:=[0,1,2,4,6,8,9,10,11,18]
def rT (x : Int) : Int → List Int → Bool
 | _,[] => true
 | f,p :: r => (Ag p && decide (AU x p > f)) && rT x (AU x p) r
def GP (x : Int) : Int → List Int → Int
 | f,[] => f
 | _,p :: r => GP x (AU x p) r
theorem Me (x p : Int) : ∀ (l : List Int) (f : Int),rT x f (l ++ [p]) = (rT x f l && (Ag p && decide (AU x p > GP x f l)))
 | [],f => by simp [rT,GP]
 | a :: r,f => by
  show ((Ag a && decide (AU x a > f)) && rT x (AU x a) (r ++ [p])) = (((Ag a && decide (AU x a > f)) && rT x (AU x a) r) && (Ag p && decide (AU x p > GP x (AU x a) r)))
  rw [Me x p r]
  exact (Bool.and_assoc _ _ _).symm
theorem Kc (x p : Int) : ∀ (l : List Int) (f : Int),GP x f (l ++ [p]) = AU x p
 | [],f => rfl
 | a :: r,f => by simp only [List.cons_append,GP];exact Kc x p r _
theorem Va (x : Int) : ∀ (l m : List Int) (f : Int),rT x f l = false → rT x f (l ++ m) = false
 | [],m,f,h => by cases h
 | a :: r,m,f,h => by
  simp only [List.cons_append,rT,Bool.and_eq_false_iff] at h ⊢
  rcases h with h | h
  ·exact .inl h
  ·exact .inr (Va x r m _ h)
theorem NE {x f : Int} {l : List Int} {k : Nat} (h : rT x f (l.take k) = false) : rT x f l = false:=by
 rw [← List.take_append_drop k l];exact Va x _ _ f h
theorem Hc {x : Int} {l : List Int} {k : Nat} {p : Int} (hp : l[k]? = some p) : GP x 0 (l.take (k + 1)) = AU x p:=by
 rw [AT hp,Kc]
def BD (x : Int) (l : List Int) : Bool:=decide (l.length ≤ 3) && rT x 0 l
theorem Pg (x a b : Int) (hx : i64 x) (ha : i64 a) (hb : i64 b) : Go.Gar.Fn Tryz.prog 117 [.i .i64 x,.i .i64 a,.i .i64 b] (.b (decide (AU x b > AU x a))):=by
 have c1:=K9 x b hx hb
 have c2:=K9 x a hx ha
 refine A0 AB Tryz.func117 rfl rfl (Nat.le_of_ble_eq_true rfl) ?_
 refine wk [0,1,2,6] [] A1 (Ao @c1 @c2) ?_;with_reducible repeat' first|constructor|intro hc;try simp only[A3] at hc
 refine ⟨_,_,rfl,rfl,?_⟩;simp [AE,A6,A5,A4]
theorem UT {x p : Int} (h : Ag p = true) : (p = Ba x) ↔ AU x p = 0:=by
 have:=EG h
 unfold Ba AU;omega
theorem U7 (x : Int) : AU x (Ba x) = 0:=by unfold AU Ba;omega
theorem RB (x p : Int) : AU (Ba x) p = AU x p:=by unfold AU Ba;omega
theorem Kh (x : Int) (l : List Int) (hx : i64 x) (hl : ∀ y ∈ l,i64 y) (hn : l.length ≤ 9223372036854775807) : Go.Gar.Fn Tryz.prog 60 [.i .i64 x,.is l] (.b (BD x l)):=by
 refine A0 AB Tryz.func60 rfl rfl (Nat.le_of_ble_eq_true rfl) ?_
 refine wd DI [] [] A1 A1 ?_;with_reducible repeat' first|constructor|intro hc;try simp only[A3] at hc
 refine BF (fun k => k ≤ l.length ∧ rT x 0 (l.take k) = true) (fun k : Nat => ⟨[(0,.d (.i .i64 x)),(1,.d (.is l)),(4,.d (.b false)),(5,.d (.i .i64 k))],[],48⟩) (fun k => l.length - k) 0 ⟨Nat.zero_le _,rfl⟩ ?_ (Nat.le_refl _) ?_
 ·exact A2.ck rfl
 rintro k ⟨hk,hpre⟩
 by_cases hkl : k < l.length
 ·obtain ⟨p,hp⟩:=AR hkl
  have gp:=Bv hp
  have hs:=Me x p (l.take k) 0
  rw [← AT hp,hpre,Bool.true_and] at hs
  have hbad : rT x 0 (l.take (k + 1)) = false → BD x l = false:=fun h => by unfold BD;rw [NE h,Bool.and_false]
  have c1:=QT p
  have c2:=By x hx
  have f0:=UT (x:=x) (p:=p)
  have hfl:=Mt x p
  cases hpl : Ag p with
  | false =>
   rw [hpl] at c1 hs
   have hB:=hbad hs
   refine wd DI [] [] (AD gp) (AD @c1) ?_;with_reducible repeat' first|constructor|intro hc;try simp only[A3] at hc
   refine ⟨_,_,rfl,rfl,?_⟩;simp [AE,A6,A5,A4,hB]
  | true =>
   rw [hpl] at c1 hs
   rw [Bool.true_and] at hs
   by_cases he : p = Ba x
   ·have hB:=hbad (by
     rw [hs,(f0 hpl).1 he]
     refine decide_eq_false ?_
     have : 0 ≤ GP x 0 (l.take k):=by
      cases k with
      | zero => exact Int.le_refl _
      | succ j =>
       obtain ⟨q,hq⟩:=AR (xs:=l) (k:=j) (by omega)
       rw [Hc hq];exact (Mt x q).1
     omega)
    have f1:=AA he
    refine wd DI [] [] (Ao gp f1) (Ao @c1 @c2) ?_;with_reducible repeat' first|constructor|intro hc;try simp only[A3] at hc
    refine ⟨_,_,rfl,rfl,?_⟩;simp [AE,A6,A5,A4,hB]
   ·have f1:=eq_false' he
    by_cases k0 : k = 0
    ·subst k0
     have hok : rT x 0 (l.take 1) = true:=by
      rw [hs]
      refine decide_eq_true ?_
      have h1 : AU x p ≠ 0:=fun h => he ((f0 hpl).2 h)
      show AU x p > 0
      omega
     refine wd DI [] [] (Ao gp f1) (Ao @c1 @c2) ?_;with_reducible repeat' first|constructor|intro hc;try simp only[A3] at hc
     refine ⟨1,⟨hkl,hok⟩,by omega,Nat.le_refl _,?_⟩
     exact A2.ck rfl
    ·obtain ⟨q,hq⟩:=AR (xs:=l) (k:=k - 1) (by omega)
     have gq:=Bv hq
     have hlq : GP x 0 (l.take k) = AU x q:=by
      have:=Hc (x:=x) hq
      rwa [show k - 1 + 1 = k by omega] at this
     have c3:=Pg x q p hx (hl q (List.mem_of_getElem? hq)) (hl p (List.mem_of_getElem? hp))
     have f2 : (k : Int) - 1 = ((k - 1 : Nat) : Int):=by omega
     have f3 : decide ((k : Int) > 0) = true:=decide_eq_true (by omega)
     rw [hlq] at hs
     cases hd : decide (AU x p > AU x q) with
     | true =>
      rw [hd] at hs c3
      refine wd DI [] [] (IF gp gq f1 f2 f3) (Bo @c1 @c2 @c3) ?_;with_reducible repeat' first|constructor|intro hc;try simp only[A3] at hc
      refine ⟨k + 1,⟨hkl,hs⟩,by omega,Nat.le_refl _,?_⟩
      exact A2.ck rfl
     | false =>
      rw [hd] at hs c3
      have hB:=hbad hs
      refine wd DI [] [] (IF gp gq f1 f2 f3) (Bo @c1 @c2 @c3) ?_;with_reducible repeat' first|constructor|intro hc;try simp only[A3] at hc
      refine ⟨_,_,rfl,rfl,?_⟩;simp [AE,A6,A5,A4,hB]
 ·have e : k = l.length:=by omega
  subst e
  rw [List.take_length] at hpre
  have hR : BD x l = decide (l.length ≤ 3):=by unfold BD;rw [hpre,Bool.and_true]
  by_cases h3 : l.length ≤ 3
  ·have f1 : decide ((l.length : Int) ≤ 3) = true:=decide_eq_true (by omega)
   have hT : BD x l = true:=by rw [hR];exact decide_eq_true h3
   refine wd DI [] [] (AD f1) A1 ?_;with_reducible repeat' first|constructor|intro hc;try simp only[A3] at hc
   refine ⟨_,_,rfl,rfl,?_⟩;simp [AE,A6,A5,A4,hT]
  ·have f1 : decide ((l.length : Int) ≤ 3) = false:=decide_eq_false (by omega)
   have hT : BD x l = false:=by rw [hR];exact decide_eq_false h3
   refine wd DI [] [] (AD f1) A1 ?_;with_reducible repeat' first|constructor|intro hc;try simp only[A3] at hc
   refine ⟨_,_,rfl,rfl,?_⟩;simp [AE,A6,A5,A4,hT]
theorem Gt (x : Int) (l : List Int) (hx : i64 x) (hl : ∀ y ∈ l,i64 y) (hn : l.length ≤ 1000) : Go.Gar.Fn Tryz.prog 60 [.i .i64 x,.is l] (.b (BD x l)):=Kh x l hx hl (Nat.le_trans hn (by decide))
theorem Uv (x : Int) (l : List Int) : B4 Tryz.prog 183 [.d (.i .i64 x),.d (.is l)] [] (.fn (.func 210) [] [.ptr 0 0 1,.ptr 1 0 1]) [.c [.d (.i .i64 x)],.c [.d (.is l)]]:=by
 refine A7 AB Tryz.func183 rfl rfl (Nat.le_of_ble_eq_true rfl) ?_
 refine wk [0,1,2,3,4] [] A1 A1 ?_;with_reducible repeat' first|constructor|intro hc;try simp only[A3] at hc
 exact ⟨_,(A2.ck rfl),Nat.zero_le _,_,_,rfl,rfl,rfl,rfl⟩
def ahead (x : Int) (l : List Int) : Nat → Int
 | 0 => x
 | k + 1 => l.getD k 0
theorem TN (x : Int) (l : List Int) (k : Nat) (hk : k ≤ l.length) : AU x (ahead (Ba x) l k) = GP x 0 (l.take k):=by
 cases k with
 | zero => exact U7 x
 | succ j =>
  obtain ⟨q,hq⟩:=AR (xs:=l) (k:=j) (by omega)
  rw [Hc hq]
  show AU x (l.getD j 0) = _
  rw [Bv hq]
theorem KG (x : Int) (l : List Int) (hn : l.length ≤ 9223372036854775807) : Go.Gar.Fn Tryz.prog 131 [.i .i64 x,.is l] (.b (BD x l)):=by
 refine A0 AB Tryz.func131 rfl rfl (Nat.le_of_ble_eq_true rfl) ?_
 by_cases h3 : l.length > 3
 ·have f1 : decide ((l.length : Int) > 3) = true:=decide_eq_true (by omega)
  have hT : BD x l = false:=by unfold BD;rw [decide_eq_false (by omega)];rfl
  refine wd CR [] [] (AD f1) A1 ?_;with_reducible repeat' first|constructor|intro hc;try simp only[A3] at hc
  refine ⟨_,_,rfl,rfl,?_⟩;simp [AE,A6,A5,A4,hT]
 have f1 : decide ((l.length : Int) > 3) = false:=decide_eq_false (by omega)
 have hR : BD x l = rT x 0 l:=by unfold BD;rw [decide_eq_true (by omega)];rfl
 have cx:=Cw x
 have d1:=Ds.mk [] (Uv (Ba x) l);refine wd CR [] [] (AD f1) (AD @cx) ?_;clear d1;with_reducible repeat' first|constructor|intro hc;try simp only[A3] at hc
 refine Aq (K:=fun r _ H' => (rT x 0 l = true ∧ H' = [.c [.d (.i .i64 (Ba x))],.c [.d (.b false)],.c [.d (.i .i64 (Ba x))],.c [.d (.is l)],.lp r]) ∨
  (rT x 0 l = false ∧ H' = [.c [.d (.i .i64 (Ba x))],.c [.d (.b false)],.c [.d (.i .i64 (Ba x))],.c [.d (.is l)],.lp (r.left .ret)])) rfl (by first | (simp only [AL,AJ,Nat.reduceAdd,Int.reduceAdd,Int.reduceSub,Int.reduceMul,Int.reduceToNat];done) | (simp only [AL,AJ,Nat.reduceAdd,Int.reduceAdd,Int.reduceSub,Int.reduceMul,Int.reduceToNat];rfl) | rfl) (by first | (simp only [AL,AJ,Nat.reduceAdd,Int.reduceAdd,Int.reduceSub,Int.reduceMul,Int.reduceToNat];done) | (simp only [AL,AJ,Nat.reduceAdd,Int.reduceAdd,Int.reduceSub,Int.reduceMul,Int.reduceToNat];rfl) | rfl) (fun r => (by first | (simp only [AL,AJ,Nat.reduceAdd,Int.reduceAdd,Int.reduceSub,Int.reduceMul,Int.reduceToNat];done) | (simp only [AL,AJ,Nat.reduceAdd,Int.reduceAdd,Int.reduceSub,Int.reduceMul,Int.reduceToNat];rfl) | rfl)) ?_ ?_
 ·intro r hr
  refine Ap AB Tryz.func210 rfl rfl (Nat.le_of_ble_eq_true rfl) ?_
  refine wk DJ [] A1 A1 ?_;with_reducible repeat' first|constructor|intro hc;try simp only[A3] at hc
  have hk:=hr.ok (k:=4) rfl
  refine BF (fun k => k ≤ l.length ∧ rT x 0 (l.take k) = true) (fun k : Nat => ⟨[(0,.yl 4),(1,.ptr 2 0 1),(2,.ptr 3 0 1),(4,.d (.i .i64 (ahead (Ba x) l k))),(8,.d (.is l)),(9,.d (.i .i64 l.length)),(10,.d (.i .i64 k))],[.c [.d (.i .i64 (Ba x))],.c [.d (.b false)],.c [.d (.i .i64 (Ba x))],.c [.d (.is l)],.lp r],21⟩) (fun k => l.length - k) 0 ⟨Nat.zero_le _,rfl⟩ ?_ (Nat.le_refl _) ?_
  ·exact A2.cut rfl (by repeat' (first | exact True.intro | refine And.intro (by (first | rfl | ((with_reducible_and_instances refine congrArg (fun z => some (AV.d (D.i _ z))) ?_);omega) | (refine congrArg (fun z => some (AV.d (D.i _ z))) (?_ : (_ : Int) = _);omega) | (refine congrArg some ?_;simp only [ahead];done) | (refine congrArg some ?_;simp [ahead];done))) ?_)) (by repeat' (first | exact True.intro | refine And.intro (Or.inr rfl) ?_ | refine And.intro (Or.inl ⟨rfl,rfl⟩) ?_ | refine And.intro (Or.inr (by simp only [ahead])) ?_ | refine And.intro (Or.inr (by simp [ahead])) ?_)) (by first | rfl | (simp (decide:=true) [Ae,AC.ok,AV.oks,AV.ok,hk];done)) rfl
  rintro k ⟨hkk,hpre⟩
  by_cases hkl : k < l.length
  ·obtain ⟨p,hp⟩:=AR hkl
   have gp:=Bv hp
   have hs:=Me x p (l.take k) 0
   rw [← AT hp,hpre,Bool.true_and] at hs
   have ha:=TN x l k hkk
   have ga : ahead (Ba x) l (k + 1) = p:=gp
   have c1:=Iy p
   have c2:=FE (Ba x) p
   have c3:=FE (Ba x) (ahead (Ba x) l k)
   rw [RB] at c2 c3
   rw [ha] at c3
   generalize GP x 0 (l.take k) = lf at *
   generalize ahead (Ba x) l k = ak at *
   have hb : decide (AU x p ≤ lf) = !decide (AU x p > lf):=by
    by_cases h : AU x p > lf
    ·rw [decide_eq_true h,decide_eq_false (by omega)];rfl
    ·rw [decide_eq_false h,decide_eq_true (by omega)];rfl
   cases hpl : Ag p with
   | false =>
    rw [hpl] at c1 hs
    refine wk DJ [] (AD gp) A1 ?_;with_reducible repeat' first|constructor|intro hc;try simp only[A3] at hc
    refine Xy (x:=.d (.b false)) (H':=[.c [.d (.i .i64 (Ba x))],.c [.d (.b false)],.c [.d (.i .i64 (Ba x))],.c [.d (.is l)],.lp (r.left .ret)]) (Aj hr rfl rfl rfl ?_) rfl rfl rfl rfl rfl ?_
    ·refine wd CR [] [] A1 A1 ?_;with_reducible repeat' first|constructor|intro hc;try simp only[A3] at hc
     refine ⟨rfl,Bl (by first | (simp only [AL,AJ,Nat.reduceAdd,Int.reduceAdd,Int.reduceSub,Int.reduceMul,Int.reduceToNat];done) | (simp only [AL,AJ,Nat.reduceAdd,Int.reduceAdd,Int.reduceSub,Int.reduceMul,Int.reduceToNat];rfl) | rfl) ?_⟩
     refine wd CR [] [] A1 (AD @c1) ?_;with_reducible repeat' first|constructor|intro hc;try simp only[A3] at hc
     exact ⟨_,A2.refl _,Nat.le_refl _,rfl,rfl,rfl⟩
    ·refine wk DJ [] A1 A1 ?_;with_reducible repeat' first|constructor|intro hc;try simp only[A3] at hc
     exact ⟨_,A2.refl _,Nat.le_refl _,_,_,rfl,rfl,.inr ⟨NE hs,rfl⟩⟩
   | true =>
    rw [hpl] at c1 hs
    rw [Bool.true_and] at hs
    cases hd : decide (AU x p > lf) with
    | false =>
     rw [hd] at hs hb
     refine wk DJ [] (AD gp) A1 ?_;with_reducible repeat' first|constructor|intro hc;try simp only[A3] at hc
     refine Xy (x:=.d (.b false)) (H':=[.c [.d (.i .i64 (Ba x))],.c [.d (.b false)],.c [.d (.i .i64 (Ba x))],.c [.d (.is l)],.lp (r.left .ret)]) (Aj hr rfl rfl rfl ?_) rfl rfl rfl rfl rfl ?_
     ·refine wd CR [] [] A1 A1 ?_;with_reducible repeat' first|constructor|intro hc;try simp only[A3] at hc
      refine ⟨rfl,Bl (by first | (simp only [AL,AJ,Nat.reduceAdd,Int.reduceAdd,Int.reduceSub,Int.reduceMul,Int.reduceToNat];done) | (simp only [AL,AJ,Nat.reduceAdd,Int.reduceAdd,Int.reduceSub,Int.reduceMul,Int.reduceToNat];rfl) | rfl) ?_⟩
      refine wd CR [] [] (AD hb) (Bo @c1 @c2 @c3) ?_;with_reducible repeat' first|constructor|intro hc;try simp only[A3] at hc
      exact ⟨_,A2.refl _,Nat.le_refl _,rfl,rfl,rfl⟩
     ·refine wk DJ [] A1 A1 ?_;with_reducible repeat' first|constructor|intro hc;try simp only[A3] at hc
      exact ⟨_,A2.refl _,Nat.le_refl _,_,_,rfl,rfl,.inr ⟨NE hs,rfl⟩⟩
    | true =>
     rw [hd] at hs hb
     refine wk DJ [] (AD gp) A1 ?_;with_reducible repeat' first|constructor|intro hc;try simp only[A3] at hc
     refine Xy (x:=.d (.b true)) (H':=[.c [.d (.i .i64 (Ba x))],.c [.d (.b false)],.c [.d (.i .i64 (Ba x))],.c [.d (.is l)],.lp r]) (Aj hr rfl rfl rfl ?_) rfl rfl rfl rfl rfl ?_
     ·refine wd CR [] [] A1 A1 ?_;with_reducible repeat' first|constructor|intro hc;try simp only[A3] at hc
      refine ⟨rfl,Bl (by first | (simp only [AL,AJ,Nat.reduceAdd,Int.reduceAdd,Int.reduceSub,Int.reduceMul,Int.reduceToNat];done) | (simp only [AL,AJ,Nat.reduceAdd,Int.reduceAdd,Int.reduceSub,Int.reduceMul,Int.reduceToNat];rfl) | rfl) ?_⟩
      refine wd CR [] [] (AD hb) (Bo @c1 @c2 @c3) ?_;with_reducible repeat' first|constructor|intro hc;try simp only[A3] at hc
      exact ⟨_,A2.refl _,Nat.le_refl _,rfl,rfl,rfl⟩
     ·refine wk DJ [] A1 A1 ?_;with_reducible repeat' first|constructor|intro hc;try simp only[A3] at hc
      refine ⟨k + 1,⟨hkl,hs⟩,by omega,Nat.le_refl _,?_⟩
      exact A2.cut rfl (by repeat' (first | exact True.intro | refine And.intro (by (first | rfl | ((with_reducible_and_instances refine congrArg (fun z => some (AV.d (D.i _ z))) ?_);omega) | (refine congrArg (fun z => some (AV.d (D.i _ z))) (?_ : (_ : Int) = _);omega) | (refine congrArg some ?_;simp only [ga];done) | (refine congrArg some ?_;simp [ga];done))) ?_)) (by repeat' (first | exact True.intro | refine And.intro (Or.inr rfl) ?_ | refine And.intro (Or.inl ⟨rfl,rfl⟩) ?_ | refine And.intro (Or.inr (by simp only [ga])) ?_ | refine And.intro (Or.inr (by simp [ga])) ?_)) (by first | rfl | (simp (decide:=true) [Ae,AC.ok,AV.oks,AV.ok,hk];done)) rfl
  ·have e : k = l.length:=by omega
   subst e
   rw [List.take_length] at hpre
   refine wk DJ [] A1 A1 ?_;with_reducible repeat' first|constructor|intro hc;try simp only[A3] at hc
   exact ⟨_,A2.refl _,Nat.le_refl _,_,_,rfl,rfl,.inl ⟨hpre,rfl⟩⟩
 ·rintro r hr y H' (⟨h,rfl⟩ | ⟨h,rfl⟩)
  ·refine .inl ⟨rfl,?_⟩
   rw [h] at hR
   refine wd CR [] [] A1 A1 ?_;with_reducible repeat' first|constructor|intro hc;try simp only[A3] at hc
   refine ⟨_,_,rfl,rfl,?_⟩;simp [AE,A6,A5,A4,hR]
  ·refine .inr ⟨.ret,rfl,?_⟩
   rw [h] at hR
   refine wd CR [] [] A1 A1 ?_;with_reducible repeat' first|constructor|intro hc;try simp only[A3] at hc
   refine ⟨_,_,rfl,rfl,?_⟩;simp [AE,A6,A5,A4,hR]
theorem SQ (x : Int) (l : List Int) (hn : l.length ≤ 1000) : Go.Gar.Fn Tryz.prog 131 [.i .i64 x,.is l] (.b (BD x l)):=KG x l (Nat.le_trans hn (by decide))
def D6 (a x b : Int) : Bool:=if Ba a = Ba b then decide (Ba x ≠ Ba a) else decide (AU a x > 0 ∧ AU a x < AU a b)
def Fy : Int → List Int → List Int → Bool
 | _,[],_ => false
 | a,p :: r,base => base.any (fun b => D6 a b p) || Fy p r base
theorem ZQ {g : Int → Bool} {l : List Int} {k : Nat} {b : Int} (hb : l[k]? = some b) (h : g b = true) : l.any g = true:=List.any_eq_true.2 ⟨b,List.mem_of_getElem? hb,h⟩
theorem Td {g : Int → Bool} {l : List Int} {k : Nat} {b : Int} (hb : l[k]? = some b) (h : g b = false) (hp : ∀ x ∈ l.take k,g x = false) : ∀ x ∈ l.take (k + 1),g x = false:=by
 intro x hx
 rw [AT hb,List.mem_append] at hx
 rcases hx with hx | hx
 ·exact hp x hx
 ·rw [List.mem_singleton.1 hx];exact h
theorem J7 {x : Int} (g : Int → Bool) : ∀ (l : List Int) (f e : Int),rT x f l = true → e ≤ f → rT x e (l.filter g) = true
 | [],f,e,_,_ => rfl
 | a :: r,f,e,h,he => by
  simp only [rT,Bool.and_eq_true,decide_eq_true_eq] at h
  cases hg : g a with
  | true =>
   rw [List.filter_cons_of_pos hg]
   simp only [rT,Bool.and_eq_true,decide_eq_true_eq]
   exact ⟨⟨h.1.1,by omega⟩,J7 g r _ _ h.2 (Int.le_refl _)⟩
  | false =>
   rw [List.filter_cons_of_neg (by rw [hg];simp)]
   exact J7 g r _ _ h.2 (by omega)
theorem V3 {x : Int} : ∀ (l : List Int) (f : Int),rT x f l = true → ∀ y ∈ l,AU x y > f
 | [],f,_,y,hy => by cases hy
 | a :: r,f,h,y,hy => by
  simp only [rT,Bool.and_eq_true,decide_eq_true_eq] at h
  rcases List.mem_cons.1 hy with rfl | hy
  ·exact h.1.2
  ·have:=V3 r _ h.2 y hy;omega
theorem Q1 {x : Int} {base : List Int} (hb : ∀ b ∈ base,Ag b = true) : ∀ (l : List Int) (a : Int),rT x (AU x a) l = true →
  (Fy a l base = true ↔ ∃ b ∈ base,AU x a < AU x b ∧ (∃ p ∈ l,AU x b < AU x p) ∧ b ∉ l)
 | [],a,_ => by simp [Fy]
 | p :: r,a,h => by
  simp only [rT,Bool.and_eq_true,decide_eq_true_eq] at h
  obtain ⟨⟨hp,hf⟩,hr⟩:=h
  have hpl:=EG hp
  have hfar:=V3 r _ hr
  have hbt : ∀ b,D6 a b p = true ↔ AU x a < AU x b ∧ AU x b < AU x p:=by
   intro b
   have hne : Ba a ≠ Ba p:=by unfold Ba;unfold AU at hf;omega
   unfold D6
   rw [if_neg hne,decide_eq_true_eq]
   unfold AU at *
   omega
  simp only [Fy,Bool.or_eq_true,List.any_eq_true,hbt]
  rw [Q1 hb r p hr]
  constructor
  ·rintro (⟨b,h1,h2,h3⟩ | ⟨b,h1,h2,⟨q,h3,h4⟩,h5⟩)
   ·refine ⟨b,h1,h2,⟨p,List.mem_cons_self ..,h3⟩,fun hm => ?_⟩
    rcases List.mem_cons.1 hm with rfl | hm
    ·omega
    ·have:=hfar b hm;omega
   ·refine ⟨b,h1,by omega,⟨q,List.mem_cons_of_mem _ h3,h4⟩,fun hm => ?_⟩
    rcases List.mem_cons.1 hm with rfl | hm
    ·omega
    ·exact h5 hm
  ·rintro ⟨b,h1,h2,⟨q,h3,h4⟩,h5⟩
   by_cases e : AU x b < AU x p
   ·exact .inl ⟨b,h1,h2,e⟩
   ·right
    have hbp:=EG (hb b h1)
    have hne : AU x b ≠ AU x p:=fun e2 => h5 (by
     have : b = p:=by unfold AU at e2;omega
     rw [this];exact List.mem_cons_self ..)
    refine ⟨b,h1,by omega,⟨q,?_,h4⟩,fun hm => h5 (List.mem_cons_of_mem _ hm)⟩
    rcases List.mem_cons.1 h3 with rfl | h3
    ·omega
    ·exact h3
abbrev EW : List Nat:=[0,1,2,6,7,8,9,14,20,32]
theorem aW (a x b : Int) (ha : i64 a) (hx : i64 x) (hb : i64 b) : Go.Gar.Fn Tryz.prog 32 [.i .i64 a,.i .i64 x,.i .i64 b] (.b (D6 a x b)):=by
 have c1:=By a ha
 have c2:=By b hb
 have c3:=By x hx
 have c4:=K9 a x ha hx
 have c5:=K9 a b ha hb
 refine A0 AB Tryz.func32 rfl rfl (Nat.le_of_ble_eq_true rfl) ?_
 by_cases h : Ba a = Ba b
 ·have f1:=AA h
  have hT : D6 a x b = decide (Ba x ≠ Ba a):=if_pos h
  by_cases h2 : Ba x = Ba a
  ·have f2:=AO h2
   have hT2 : D6 a x b = false:=by rw [hT];simp [h2]
   refine wk [0,1,2,6,11] [] (Ao f1 f2) (Bo @c1 @c2 @c3) ?_;with_reducible repeat' first|constructor|intro hc;try simp only[A3] at hc
   refine ⟨_,_,rfl,rfl,?_⟩;simp [AE,A6,A5,A4,hT2]
  ·have f2:=BJ h2
   have hT2 : D6 a x b = true:=by rw [hT];simp [h2]
   refine wk [0,1,2,6,11] [] (Ao f1 f2) (Bo @c1 @c2 @c3) ?_;with_reducible repeat' first|constructor|intro hc;try simp only[A3] at hc
   refine ⟨_,_,rfl,rfl,?_⟩;simp [AE,A6,A5,A4,hT2]
 ·have f1:=eq_false' h
  have hT : D6 a x b = decide (AU a x > 0 ∧ AU a x < AU a b):=if_neg h
  by_cases h2 : AU a x > 0
  ·have f2 : decide (AU a x > 0) = true:=decide_eq_true h2
   have hT2 : D6 a x b = decide (AU a x < AU a b):=by rw [hT];simp [h2]
   refine wk [0,1,2,6,11] [] (Ao f1 f2) (IF @c1 @c2 @c3 @c4 @c5) ?_;with_reducible repeat' first|constructor|intro hc;try simp only[A3] at hc
   refine ⟨_,_,rfl,rfl,?_⟩;simp [AE,A6,A5,A4,hT2]
  ·have f2 : decide (AU a x > 0) = false:=decide_eq_false h2
   have hT2 : D6 a x b = false:=by rw [hT];simp [h2]
   refine wk [0,1,2,6,11] [] (Ao f1 f2) (IF @c1 @c2 @c3 @c4 @c5) ?_;with_reducible repeat' first|constructor|intro hc;try simp only[A3] at hc
   refine ⟨_,_,rfl,rfl,?_⟩;simp [AE,A6,A5,A4,hT2]
theorem Gg (x : Int) (l base : List Int) (hx : i64 x) (hl : ∀ y ∈ l,i64 y) (hb : ∀ y ∈ base,i64 y) (hn : l.length ≤ 1000) (hm : base.length ≤ 1000) : Go.Gar.Fn Tryz.prog 11 [.i .i64 x,.is l,.is base] (.b (Fy x l base)):=by
 refine A0 AB Tryz.func11 rfl rfl (Nat.le_of_ble_eq_true rfl) ?_
 refine wd EW [] [] A1 A1 ?_;with_reducible repeat' first|constructor|intro hc;try simp only[A3] at hc
 refine BF (fun k => k ≤ l.length ∧ i64 (ahead x l k) ∧ Fy x l base = Fy (ahead x l k) (l.drop k) base) (fun k : Nat => ⟨[(0,.d (.i .i64 x)),(1,.d (.is l)),(2,.d (.is base)),(6,.d (.b false)),(7,.d (.i .i64 (ahead x l k))),(8,.d (.i .i64 k))],[],37⟩) (fun k => l.length - k) 0 ⟨Nat.zero_le _,hx,rfl⟩ ?_ (Nat.le_refl _) ?_
 ·exact A2.cut rfl (by repeat' (first | exact True.intro | refine And.intro (by (first | rfl | ((with_reducible_and_instances refine congrArg (fun z => some (AV.d (D.i _ z))) ?_);omega) | (refine congrArg (fun z => some (AV.d (D.i _ z))) (?_ : (_ : Int) = _);omega) | (refine congrArg some ?_;simp only [ahead];done) | (refine congrArg some ?_;simp [ahead];done))) ?_)) (by repeat' (first | exact True.intro | refine And.intro (Or.inr rfl) ?_ | refine And.intro (Or.inl ⟨rfl,rfl⟩) ?_ | refine And.intro (Or.inr (by simp only [ahead])) ?_ | refine And.intro (Or.inr (by simp [ahead])) ?_)) (by first | rfl | (simp (decide:=true) [Ae,AC.ok,AV.oks,AV.ok,hk];done)) rfl
 rintro k ⟨hk,hA,hS⟩
 by_cases hkl : k < l.length
 ·obtain ⟨p,hp⟩:=AR hkl
  have gp:=Bv hp
  have hpi:=hl p (List.mem_of_getElem? hp)
  have hd : l.drop k = p :: l.drop (k + 1):=by
   rw [List.drop_eq_getElem_cons hkl]
   rw [List.getElem?_eq_getElem hkl] at hp
   cases hp;rfl
  have hN : ahead x l (k + 1) = p:=gp
  rw [hd] at hS
  generalize hat : ahead x l k = a at *
  refine wd EW [] [] (AD gp) A1 ?_;with_reducible repeat' first|constructor|intro hc;try simp only[A3] at hc
  refine BF (fun j => j ≤ base.length ∧ ∀ b ∈ base.take j,D6 a b p = false) (fun j : Nat => ⟨[(0,.d (.i .i64 x)),(1,.d (.is l)),(2,.d (.is base)),(6,.d (.b false)),(7,.d (.i .i64 a)),(8,.d (.i .i64 k)),(9,.d (.i .i64 j))],[],37⟩) (fun j => base.length - j) 0 ⟨Nat.zero_le _,fun _ h => by cases h⟩ ?_ (Nat.le_refl _) ?_
  ·exact A2.ck rfl
  rintro j ⟨hj,hpre⟩
  by_cases hjl : j < base.length
  ·obtain ⟨b,hbj⟩:=AR hjl
   have gb:=Bv hbj
   have c1:=aW a b p hA (hb b (List.mem_of_getElem? hbj)) hpi
   cases hI : D6 a b p with
   | true =>
    rw [hI] at c1
    have hT : Fy x l base = true:=by
     rw [hS];show (base.any _ || _) = true
     rw [ZQ (g:=fun b => D6 a b p) hbj hI];rfl
    refine wd EW [] [] (Ao gp gb) (AD @c1) ?_;with_reducible repeat' first|constructor|intro hc;try simp only[A3] at hc
    refine ⟨_,_,rfl,rfl,?_⟩;simp [AE,A6,A5,A4,hT]
   | false =>
    rw [hI] at c1
    have hpre':=Td (g:=fun b => D6 a b p) hbj hI hpre
    refine wd EW [] [] (Ao gp gb) (AD @c1) ?_;with_reducible repeat' first|constructor|intro hc;try simp only[A3] at hc
    refine ⟨j + 1,⟨hjl,hpre'⟩,by omega,Nat.le_refl _,?_⟩
    exact A2.ck rfl
  ·have e : j = base.length:=by omega
   subst e
   rw [List.take_length] at hpre
   have hS' : Fy x l base = Fy p (l.drop (k + 1)) base:=by
    rw [hS];show (base.any _ || _) = _
    rw [show base.any (fun b => D6 a b p) = false from List.any_eq_false.2 fun b hb => by rw [hpre b hb];simp];rfl
   rw [← hN] at hS' hpi
   refine wd EW [] [] (AD gp) A1 ?_;with_reducible repeat' first|constructor|intro hc;try simp only[A3] at hc
   refine ⟨k + 1,⟨hkl,hpi,hS'⟩,by omega,Nat.le_refl _,?_⟩
   exact A2.cut rfl (by repeat' (first | exact True.intro | refine And.intro (by (first | rfl | ((with_reducible_and_instances refine congrArg (fun z => some (AV.d (D.i _ z))) ?_);omega) | (refine congrArg (fun z => some (AV.d (D.i _ z))) (?_ : (_ : Int) = _);omega) | (refine congrArg some ?_;simp only [hN];done) | (refine congrArg some ?_;simp [hN];done))) ?_)) (by repeat' (first | exact True.intro | refine And.intro (Or.inr rfl) ?_ | refine And.intro (Or.inl ⟨rfl,rfl⟩) ?_ | refine And.intro (Or.inr (by simp only [hN])) ?_ | refine And.intro (Or.inr (by simp [hN])) ?_)) (by first | rfl | (simp (decide:=true) [Ae,AC.ok,AV.oks,AV.ok,hk];done)) rfl
 ·have e : k = l.length:=by omega
  subst e
  have hT : Fy x l base = false:=by rw [hS,List.drop_length];rfl
  refine wd EW [] [] A1 A1 ?_;with_reducible repeat' first|constructor|intro hc;try simp only[A3] at hc
  refine ⟨_,_,rfl,rfl,?_⟩;simp [AE,A6,A5,A4,hT]
end Go.Proofs.YtnahkfkljohjaaaGreatDoor
