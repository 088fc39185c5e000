/- Part 15 of the texts of this proof, put together by a program and made short.
Conditions: none; what each theorem asks stands in its own hypotheses. -/
import Derived.Test.YtagnjflbhjmefaaGreatRb11
import Derived.Test.YtagnjflbhjmefaaGreatRb14
import Derived.KernelRfl
import Derived.RangeFuncIn
import Derived.Sort.Grow
import Derived.Laws.Cover3
import Derived.RecoverIn
import Derived.ProofKit
import Derived.OpenShut
import Derived.CallsIn
import Derived.RangeFuncLeaves
import Derived.OrdersIn
import Derived.TacticsIn
import Derived.ChangeKeysEq
import Derived.Laws.AppendOwn
import Derived.Laws.OwnMore
import Derived.Laws.MakeOwn
import Derived.Laws.Rows
import Derived.Laws.Cells
import Derived.Laws.Tables
import Derived.Laws.CopyRow
import Derived.Laws.Strings
import Derived.Laws.IdiomStrings
import Derived.Laws.BytesArg
import Derived.Test.YtagnjflbhjmefaaGreatProg
set_option linter.unusedSimpArgs false
set_option linter.unusedVariables false
set_option linter.unnecessarySimpa false
set_option maxHeartbeats 40000000
namespace Go.Proofs.YtagnjflbhjmefaaGreat
open Go.Gar
set_option maxRecDepth 4000
def rT (x : Int) : Int → List Int → Bool
 | _,[] => true
 | f,p :: r => (Ay p && decide (AK x p > f)) && rT x (AK x p) r
def G7 (x : Int) : Int → List Int → Int
 | f,[] => f
 | _,p :: r => G7 x (AK x p) r
theorem Ml (x p : Int) : ∀ (l : List Int) (f : Int),rT x f (l ++ [p]) = (rT x f l && (Ay p && decide (AK x p > G7 x f l)))
 | [],f => by simp [rT,G7]
 | a :: r,f => by
  show ((Ay a && decide (AK x a > f)) && rT x (AK x a) (r ++ [p])) = (((Ay a && decide (AK x a > f)) && rT x (AK x a) r) && (Ay p && decide (AK x p > G7 x (AK x a) r)))
  rw [Ml x p r]
  exact (Bool.and_assoc _ _ _).symm
theorem L9 (x p : Int) : ∀ (l : List Int) (f : Int),G7 x f (l ++ [p]) = AK x p
 | [],f => rfl
 | a :: r,f => by simp only [List.cons_append,G7];exact L9 x p r _
theorem UU (x : Int) : ∀ (l m : List Int) (f : Int),rT x f l = false → rT x f (l ++ m) = false
 | [],m,f,h => by cases h
 | a :: r,m,f,h => by
  simp only [List.cons_append,rT,Bool.and_eq_false_iff] at h ⊢
  rcases h with h | h
  ·exact .inl h
  ·exact .inr (UU x r m _ h)
theorem MM {x f : Int} {l : List Int} {k : Nat} (h : rT x f (l.take k) = false) : rT x f l = false:=by
 rw [← List.take_append_drop k l];exact UU x _ _ f h
theorem Gy {x : Int} {l : List Int} {k : Nat} {p : Int} (hp : l[k]? = some p) : G7 x 0 (l.take (k + 1)) = AK x p:=by
 rw [AR hp,L9]
def Bz (x : Int) (l : List Int) : Bool:=decide (l.length ≤ 3) && rT x 0 l
theorem PO (x a b : Int) (hx : i64 x) (ha : i64 a) (hb : i64 b) : Go.Gar.Fn Tryz.prog 172 [.i .i64 x,.i .i64 a,.i .i64 b] (.b (decide (AK x b > AK x a))):=by
 have c1:=GT x b hx hb
 have c2:=GT x a hx ha
 refine A3 A8 Tryz.func172 rfl rfl (Nat.le_of_ble_eq_true rfl) ?_
 have nS:=True.intro;obtain ⟨lv,st,ns,nc⟩:=wq [0,1,2,6] [];have c1:=@c1;have c2:=@c2;refine wk ?_;clear nc ns st lv c2 c1;repeat' (first|with_reducible constructor|(with_reducible intro hc;try simp only[A1] at hc))
 refine ⟨_,_,rfl,rfl,?_⟩;simp [AH,A6,A5,A4]
theorem UT {x p : Int} (h : Ay p = true) : (p = Bm x) ↔ AK x p = 0:=by
 have:=BN h
 unfold Bm AK;omega
theorem Ob (x : Int) : AK x (Bm x) = 0:=by unfold AK Bm;omega
theorem QB (x p : Int) : AK (Bm x) p = AK x p:=by unfold AK Bm;omega
theorem Jy (x : Int) (l : List Int) (hx : i64 x) (hl : ∀ y ∈ l,i64 y) (hn : l.length ≤ 9223372036854775807) : Go.Gar.Fn Tryz.prog 126 [.i .i64 x,.is l] (.b (Bz x l)):=by
 refine A3 A8 Tryz.func126 rfl rfl (Nat.le_of_ble_eq_true rfl) ?_
 have nS:=True.intro;obtain ⟨lv,st,ns,nc⟩:=wq [0,1,4,5,9,44] [];have pr : AC []:=trivial;refine wd ?_;clear nc ns st lv pr;repeat' (first|with_reducible constructor|(with_reducible intro hc;try simp only[A1] at hc))
 refine Aq (fun k => k ≤ l.length ∧ rT x 0 (l.take k) = true) (fun k : Nat => ⟨[(0,.d (.i .i64 x)),(1,.d (.is l)),(4,.d (.b false)),(5,.d (.i .i64 k))],[],48⟩) (fun k => l.length - k) 0 ⟨Nat.zero_le _,rfl⟩ ?_ (Nat.le_refl _) ?_
 ·exact A0.ck rfl
 rintro k ⟨hk,hpre⟩
 by_cases hkl : k < l.length
 ·obtain ⟨p,hp⟩:=AG hkl
  have gp:=AY hp
  have hs:=Ml x p (l.take k) 0
  rw [← AR hp,hpre,Bool.true_and] at hs
  have hbad : rT x 0 (l.take (k + 1)) = false → Bz x l = false:=fun h => by unfold Bz;rw [MM h,Bool.and_false]
  have c1:=PC p
  have c2:=BM x hx
  have f0:=UT (x:=x) (p:=p)
  have hfl:=QG x p
  cases hpl : Ay p with
  | false =>
   rw [hpl] at c1 hs
   have hB:=hbad hs
   have nS:=gp;obtain ⟨lv,st,ns,nc⟩:=wq [0,1,4,5,9,44] [];have c1:=@c1;have pr : AC []:=trivial;refine wd ?_;clear nc ns st lv pr c1;repeat' (first|with_reducible constructor|(with_reducible intro hc;try simp only[A1] at hc))
   refine ⟨_,_,rfl,rfl,?_⟩;simp [AH,A6,A5,A4,hB]
  | true =>
   rw [hpl] at c1 hs
   rw [Bool.true_and] at hs
   by_cases he : p = Bm x
   ·have hB:=hbad (by
     rw [hs,(f0 hpl).1 he]
     refine decide_eq_false ?_
     have : 0 ≤ G7 x 0 (l.take k):=by
      cases k with
      | zero => exact Int.le_refl _
      | succ j =>
       obtain ⟨q,hq⟩:=AG (xs:=l) (k:=j) (by omega)
       rw [Gy hq];exact (QG x q).1
     omega)
    have f1:=Ar he
    have nS:=And.intro gp f1;obtain ⟨lv,st,ns,nc⟩:=wq [0,1,4,5,9,44] [];have c1:=@c1;have c2:=@c2;have pr : AC []:=trivial;refine wd ?_;clear nc ns st lv pr c2 c1;repeat' (first|with_reducible constructor|(with_reducible intro hc;try simp only[A1] at hc))
    refine ⟨_,_,rfl,rfl,?_⟩;simp [AH,A6,A5,A4,hB]
   ·have f1:=eq_false' he
    by_cases k0 : k = 0
    ·subst k0
     have hok : rT x 0 (l.take 1) = true:=by
      rw [hs]
      refine decide_eq_true ?_
      have h1 : AK x p ≠ 0:=fun h => he ((f0 hpl).2 h)
      show AK x p > 0
      omega
     have nS:=And.intro gp f1;obtain ⟨lv,st,ns,nc⟩:=wq [0,1,4,5,9,44] [];have c1:=@c1;have c2:=@c2;have pr : AC []:=trivial;refine wd ?_;clear nc ns st lv pr c2 c1;repeat' (first|with_reducible constructor|(with_reducible intro hc;try simp only[A1] at hc))
     refine ⟨1,⟨hkl,hok⟩,by omega,Nat.le_refl _,?_⟩
     exact A0.ck rfl
    ·obtain ⟨q,hq⟩:=AG (xs:=l) (k:=k - 1) (by omega)
     have gq:=AY hq
     have hlq : G7 x 0 (l.take k) = AK x q:=by
      have:=Gy (x:=x) hq
      rwa [show k - 1 + 1 = k by omega] at this
     have c3:=PO x q p hx (hl q (List.mem_of_getElem? hq)) (hl p (List.mem_of_getElem? hp))
     have f2 : (k : Int) - 1 = ((k - 1 : Nat) : Int):=by omega
     have f3 : decide ((k : Int) > 0) = true:=decide_eq_true (by omega)
     rw [hlq] at hs
     cases hd : decide (AK x p > AK x q) with
     | true =>
      rw [hd] at hs c3
      have nS:=And.intro gp (And.intro gq (And.intro f1 (And.intro f2 f3)));obtain ⟨lv,st,ns,nc⟩:=wq [0,1,4,5,9,44] [];have c1:=@c1;have c2:=@c2;have c3:=@c3;have pr : AC []:=trivial;refine wd ?_;clear nc ns st lv pr c3 c2 c1;repeat' (first|with_reducible constructor|(with_reducible intro hc;try simp only[A1] at hc))
      refine ⟨k + 1,⟨hkl,hs⟩,by omega,Nat.le_refl _,?_⟩
      exact A0.ck rfl
     | false =>
      rw [hd] at hs c3
      have hB:=hbad hs
      have nS:=And.intro gp (And.intro gq (And.intro f1 (And.intro f2 f3)));obtain ⟨lv,st,ns,nc⟩:=wq [0,1,4,5,9,44] [];have c1:=@c1;have c2:=@c2;have c3:=@c3;have pr : AC []:=trivial;refine wd ?_;clear nc ns st lv pr c3 c2 c1;repeat' (first|with_reducible constructor|(with_reducible intro hc;try simp only[A1] at hc))
      refine ⟨_,_,rfl,rfl,?_⟩;simp [AH,A6,A5,A4,hB]
 ·have e : k = l.length:=by omega
  subst e
  rw [List.take_length] at hpre
  have hR : Bz x l = decide (l.length ≤ 3):=by unfold Bz;rw [hpre,Bool.and_true]
  by_cases h3 : l.length ≤ 3
  ·have f1 : decide ((l.length : Int) ≤ 3) = true:=decide_eq_true (by omega)
   have hT : Bz x l = true:=by rw [hR];exact decide_eq_true h3
   have nS:=f1;obtain ⟨lv,st,ns,nc⟩:=wq [0,1,4,5,9,44] [];have pr : AC []:=trivial;refine wd ?_;clear nc ns st lv pr;repeat' (first|with_reducible constructor|(with_reducible intro hc;try simp only[A1] at hc))
   refine ⟨_,_,rfl,rfl,?_⟩;simp [AH,A6,A5,A4,hT]
  ·have f1 : decide ((l.length : Int) ≤ 3) = false:=decide_eq_false (by omega)
   have hT : Bz x l = false:=by rw [hR];exact decide_eq_false h3
   have nS:=f1;obtain ⟨lv,st,ns,nc⟩:=wq [0,1,4,5,9,44] [];have pr : AC []:=trivial;refine wd ?_;clear nc ns st lv pr;repeat' (first|with_reducible constructor|(with_reducible intro hc;try simp only[A1] at hc))
   refine ⟨_,_,rfl,rfl,?_⟩;simp [AH,A6,A5,A4,hT]
theorem GX (x : Int) (l : List Int) (hx : i64 x) (hl : ∀ y ∈ l,i64 y) (hn : l.length ≤ 1000) : Go.Gar.Fn Tryz.prog 126 [.i .i64 x,.is l] (.b (Bz x l)):=Jy x l hx hl (Nat.le_trans hn (by decide))
theorem Fv (x : Int) (l : List Int) : BK Tryz.prog 75 [.d (.i .i64 x),.d (.is l)] [] (.fn (.func 128) [] [.ptr 0 0 1,.ptr 1 0 1]) [.c [.d (.i .i64 x)],.c [.d (.is l)]]:=by
 refine AB A8 Tryz.func75 rfl rfl (Nat.le_of_ble_eq_true rfl) ?_
 have nS:=True.intro;obtain ⟨lv,st,ns,nc⟩:=wq [0,1,2,3,4] [];refine wk ?_;clear nc ns st lv;repeat' (first|with_reducible constructor|(with_reducible intro hc;try simp only[A1] at hc))
 exact ⟨_,(A0.ck rfl),Nat.zero_le _,_,_,rfl,rfl,rfl,rfl⟩
def ahead (x : Int) (l : List Int) : Nat → Int
 | 0 => x
 | k + 1 => l.getD k 0
theorem Qx (x : Int) (l : List Int) (k : Nat) (hk : k ≤ l.length) : AK x (ahead (Bm x) l k) = G7 x 0 (l.take k):=by
 cases k with
 | zero => exact Ob x
 | succ j =>
  obtain ⟨q,hq⟩:=AG (xs:=l) (k:=j) (by omega)
  rw [Gy hq]
  show AK x (l.getD j 0) = _
  rw [AY hq]
theorem PW (x : Int) (l : List Int) (hn : l.length ≤ 9223372036854775807) : Go.Gar.Fn Tryz.prog 160 [.i .i64 x,.is l] (.b (Bz x l)):=by
 refine A3 A8 Tryz.func160 rfl rfl (Nat.le_of_ble_eq_true rfl) ?_
 by_cases h3 : l.length > 3
 ·have f1 : decide ((l.length : Int) > 3) = true:=decide_eq_true (by omega)
  have hT : Bz x l = false:=by unfold Bz;rw [decide_eq_false (by omega)];rfl
  have nS:=f1;obtain ⟨lv,st,ns,nc⟩:=wq [0,1,2,4,5,6,9,14,15,16,28] [];have pr : AC []:=trivial;refine wd ?_;clear nc ns st lv pr;repeat' (first|with_reducible constructor|(with_reducible intro hc;try simp only[A1] at hc))
  refine ⟨_,_,rfl,rfl,?_⟩;simp [AH,A6,A5,A4,hT]
 have f1 : decide ((l.length : Int) > 3) = false:=decide_eq_false (by omega)
 have hR : Bz x l = rT x 0 l:=by unfold Bz;rw [decide_eq_true (by omega)];rfl
 have cx:=G9 x
 have nS:=f1;obtain ⟨lv,st,ns,nc⟩:=wq [0,1,2,4,5,6,9,14,15,16,28] [];have c1:=@cx;have d1:=Ds.mk [] (Fv (Bm x) l);have pr : AC []:=trivial;refine wd ?_;clear nc ns st lv pr d1 c1;repeat' (first|with_reducible constructor|(with_reducible intro hc;try simp only[A1] at hc))
 refine Bn (K:=fun r _ H' => (rT x 0 l = true ∧ H' = [.c [.d (.i .i64 (Bm x))],.c [.d (.b false)],.c [.d (.i .i64 (Bm x))],.c [.d (.is l)],.lp r]) ∨
  (rT x 0 l = false ∧ H' = [.c [.d (.i .i64 (Bm x))],.c [.d (.b false)],.c [.d (.i .i64 (Bm x))],.c [.d (.is l)],.lp (r.left .ret)])) rfl (by first | (simp only [Ai,Ae,Nat.reduceAdd,Int.reduceAdd,Int.reduceSub,Int.reduceMul,Int.reduceToNat];done) | (simp only [Ai,Ae,Nat.reduceAdd,Int.reduceAdd,Int.reduceSub,Int.reduceMul,Int.reduceToNat];rfl) | rfl) (by first | (simp only [Ai,Ae,Nat.reduceAdd,Int.reduceAdd,Int.reduceSub,Int.reduceMul,Int.reduceToNat];done) | (simp only [Ai,Ae,Nat.reduceAdd,Int.reduceAdd,Int.reduceSub,Int.reduceMul,Int.reduceToNat];rfl) | rfl) (fun r => (by first | (simp only [Ai,Ae,Nat.reduceAdd,Int.reduceAdd,Int.reduceSub,Int.reduceMul,Int.reduceToNat];done) | (simp only [Ai,Ae,Nat.reduceAdd,Int.reduceAdd,Int.reduceSub,Int.reduceMul,Int.reduceToNat];rfl) | rfl)) ?_ ?_
 ·intro r hr
  refine BP A8 Tryz.func128 rfl rfl (Nat.le_of_ble_eq_true rfl) ?_
  have nS:=True.intro;obtain ⟨lv,st,ns,nc⟩:=wq [0,1,2,4,6,8,9,10,11,18] [];refine wk ?_;clear nc ns st lv;repeat' (first|with_reducible constructor|(with_reducible intro hc;try simp only[A1] at hc))
  have hk:=hr.ok (k:=4) rfl
  refine Aq (fun k => k ≤ l.length ∧ rT x 0 (l.take k) = true) (fun k : Nat => ⟨[(0,.yl 4),(1,.ptr 2 0 1),(2,.ptr 3 0 1),(4,.d (.i .i64 (ahead (Bm x) l k))),(8,.d (.is l)),(9,.d (.i .i64 l.length)),(10,.d (.i .i64 k))],[.c [.d (.i .i64 (Bm x))],.c [.d (.b false)],.c [.d (.i .i64 (Bm x))],.c [.d (.is l)],.lp r],21⟩) (fun k => l.length - k) 0 ⟨Nat.zero_le _,rfl⟩ ?_ (Nat.le_refl _) ?_
  ·exact A0.cut rfl (by repeat' (first | exact True.intro | refine And.intro (by (first | rfl | ((with_reducible_and_instances refine congrArg (fun z => some (AV.d (D.i _ z))) ?_);omega) | (refine congrArg (fun z => some (AV.d (D.i _ z))) (?_ : (_ : Int) = _);omega) | (refine congrArg some ?_;simp only [ahead];done) | (refine congrArg some ?_;simp [ahead];done))) ?_)) (by repeat' (first | exact True.intro | refine And.intro (Or.inr rfl) ?_ | refine And.intro (Or.inl ⟨rfl,rfl⟩) ?_ | refine And.intro (Or.inr (by simp only [ahead])) ?_ | refine And.intro (Or.inr (by simp [ahead])) ?_)) (by first | rfl | (simp (decide:=true) [AT,A7.ok,AV.oks,AV.ok,hk];done)) rfl
  rintro k ⟨hkk,hpre⟩
  by_cases hkl : k < l.length
  ·obtain ⟨p,hp⟩:=AG hkl
   have gp:=AY hp
   have hs:=Ml x p (l.take k) 0
   rw [← AR hp,hpre,Bool.true_and] at hs
   have ha:=Qx x l k hkk
   have ga : ahead (Bm x) l (k + 1) = p:=gp
   have c1:=R2 p
   have c2:=IV (Bm x) p
   have c3:=IV (Bm x) (ahead (Bm x) l k)
   rw [QB] at c2 c3
   rw [ha] at c3
   generalize G7 x 0 (l.take k) = lf at *
   generalize ahead (Bm x) l k = ak at *
   have hb : decide (AK x p ≤ lf) = !decide (AK x p > lf):=by
    by_cases h : AK x p > lf
    ·rw [decide_eq_true h,decide_eq_false (by omega)];rfl
    ·rw [decide_eq_false h,decide_eq_true (by omega)];rfl
   cases hpl : Ay p with
   | false =>
    rw [hpl] at c1 hs
    have nS:=gp;obtain ⟨lv,st,ns,nc⟩:=wq [0,1,2,4,6,8,9,10,11,18] [];refine wk ?_;clear nc ns st lv;repeat' (first|with_reducible constructor|(with_reducible intro hc;try simp only[A1] at hc))
    refine Xy (x:=.d (.b false)) (H':=[.c [.d (.i .i64 (Bm x))],.c [.d (.b false)],.c [.d (.i .i64 (Bm x))],.c [.d (.is l)],.lp (r.left .ret)]) (B0 hr rfl rfl rfl ?_) rfl rfl rfl rfl rfl ?_
    ·have nS:=True.intro;obtain ⟨lv,st,ns,nc⟩:=wq [0,1,2,4,5,6,9,14,15,16,28] [];have pr : AC []:=trivial;refine wd ?_;clear nc ns st lv pr;repeat' (first|with_reducible constructor|(with_reducible intro hc;try simp only[A1] at hc))
     refine ⟨rfl,CB (by first | (simp only [Ai,Ae,Nat.reduceAdd,Int.reduceAdd,Int.reduceSub,Int.reduceMul,Int.reduceToNat];done) | (simp only [Ai,Ae,Nat.reduceAdd,Int.reduceAdd,Int.reduceSub,Int.reduceMul,Int.reduceToNat];rfl) | rfl) ?_⟩
     have nS:=True.intro;obtain ⟨lv,st,ns,nc⟩:=wq [0,1,2,4,5,6,9,14,15,16,28] [];have c1:=@c1;have pr : AC []:=trivial;refine wd ?_;clear nc ns st lv pr c1;repeat' (first|with_reducible constructor|(with_reducible intro hc;try simp only[A1] at hc))
     exact ⟨_,A0.refl _,Nat.le_refl _,rfl,rfl,rfl⟩
    ·have nS:=True.intro;obtain ⟨lv,st,ns,nc⟩:=wq [0,1,2,4,6,8,9,10,11,18] [];refine wk ?_;clear nc ns st lv;repeat' (first|with_reducible constructor|(with_reducible intro hc;try simp only[A1] at hc))
     exact ⟨_,A0.refl _,Nat.le_refl _,_,_,rfl,rfl,.inr ⟨MM hs,rfl⟩⟩
   | true =>
    rw [hpl] at c1 hs
    rw [Bool.true_and] at hs
    cases hd : decide (AK x p > lf) with
    | false =>
     rw [hd] at hs hb
     have nS:=gp;obtain ⟨lv,st,ns,nc⟩:=wq [0,1,2,4,6,8,9,10,11,18] [];refine wk ?_;clear nc ns st lv;repeat' (first|with_reducible constructor|(with_reducible intro hc;try simp only[A1] at hc))
     refine Xy (x:=.d (.b false)) (H':=[.c [.d (.i .i64 (Bm x))],.c [.d (.b false)],.c [.d (.i .i64 (Bm x))],.c [.d (.is l)],.lp (r.left .ret)]) (B0 hr rfl rfl rfl ?_) rfl rfl rfl rfl rfl ?_
     ·have nS:=True.intro;obtain ⟨lv,st,ns,nc⟩:=wq [0,1,2,4,5,6,9,14,15,16,28] [];have pr : AC []:=trivial;refine wd ?_;clear nc ns st lv pr;repeat' (first|with_reducible constructor|(with_reducible intro hc;try simp only[A1] at hc))
      refine ⟨rfl,CB (by first | (simp only [Ai,Ae,Nat.reduceAdd,Int.reduceAdd,Int.reduceSub,Int.reduceMul,Int.reduceToNat];done) | (simp only [Ai,Ae,Nat.reduceAdd,Int.reduceAdd,Int.reduceSub,Int.reduceMul,Int.reduceToNat];rfl) | rfl) ?_⟩
      have nS:=hb;obtain ⟨lv,st,ns,nc⟩:=wq [0,1,2,4,5,6,9,14,15,16,28] [];have c1:=@c1;have c2:=@c2;have c3:=@c3;have pr : AC []:=trivial;refine wd ?_;clear nc ns st lv pr c3 c2 c1;repeat' (first|with_reducible constructor|(with_reducible intro hc;try simp only[A1] at hc))
      exact ⟨_,A0.refl _,Nat.le_refl _,rfl,rfl,rfl⟩
     ·have nS:=True.intro;obtain ⟨lv,st,ns,nc⟩:=wq [0,1,2,4,6,8,9,10,11,18] [];refine wk ?_;clear nc ns st lv;repeat' (first|with_reducible constructor|(with_reducible intro hc;try simp only[A1] at hc))
      exact ⟨_,A0.refl _,Nat.le_refl _,_,_,rfl,rfl,.inr ⟨MM hs,rfl⟩⟩
    | true =>
     rw [hd] at hs hb
     have nS:=gp;obtain ⟨lv,st,ns,nc⟩:=wq [0,1,2,4,6,8,9,10,11,18] [];refine wk ?_;clear nc ns st lv;repeat' (first|with_reducible constructor|(with_reducible intro hc;try simp only[A1] at hc))
     refine Xy (x:=.d (.b true)) (H':=[.c [.d (.i .i64 (Bm x))],.c [.d (.b false)],.c [.d (.i .i64 (Bm x))],.c [.d (.is l)],.lp r]) (B0 hr rfl rfl rfl ?_) rfl rfl rfl rfl rfl ?_
     ·have nS:=True.intro;obtain ⟨lv,st,ns,nc⟩:=wq [0,1,2,4,5,6,9,14,15,16,28] [];have pr : AC []:=trivial;refine wd ?_;clear nc ns st lv pr;repeat' (first|with_reducible constructor|(with_reducible intro hc;try simp only[A1] at hc))
      refine ⟨rfl,CB (by first | (simp only [Ai,Ae,Nat.reduceAdd,Int.reduceAdd,Int.reduceSub,Int.reduceMul,Int.reduceToNat];done) | (simp only [Ai,Ae,Nat.reduceAdd,Int.reduceAdd,Int.reduceSub,Int.reduceMul,Int.reduceToNat];rfl) | rfl) ?_⟩
      have nS:=hb;obtain ⟨lv,st,ns,nc⟩:=wq [0,1,2,4,5,6,9,14,15,16,28] [];have c1:=@c1;have c2:=@c2;have c3:=@c3;have pr : AC []:=trivial;refine wd ?_;clear nc ns st lv pr c3 c2 c1;repeat' (first|with_reducible constructor|(with_reducible intro hc;try simp only[A1] at hc))
      exact ⟨_,A0.refl _,Nat.le_refl _,rfl,rfl,rfl⟩
     ·have nS:=True.intro;obtain ⟨lv,st,ns,nc⟩:=wq [0,1,2,4,6,8,9,10,11,18] [];refine wk ?_;clear nc ns st lv;repeat' (first|with_reducible constructor|(with_reducible intro hc;try simp only[A1] at hc))
      refine ⟨k + 1,⟨hkl,hs⟩,by omega,Nat.le_refl _,?_⟩
      exact A0.cut rfl (by repeat' (first | exact True.intro | refine And.intro (by (first | rfl | ((with_reducible_and_instances refine congrArg (fun z => some (AV.d (D.i _ z))) ?_);omega) | (refine congrArg (fun z => some (AV.d (D.i _ z))) (?_ : (_ : Int) = _);omega) | (refine congrArg some ?_;simp only [ga];done) | (refine congrArg some ?_;simp [ga];done))) ?_)) (by repeat' (first | exact True.intro | refine And.intro (Or.inr rfl) ?_ | refine And.intro (Or.inl ⟨rfl,rfl⟩) ?_ | refine And.intro (Or.inr (by simp only [ga])) ?_ | refine And.intro (Or.inr (by simp [ga])) ?_)) (by first | rfl | (simp (decide:=true) [AT,A7.ok,AV.oks,AV.ok,hk];done)) rfl
  ·have e : k = l.length:=by omega
   subst e
   rw [List.take_length] at hpre
   have nS:=True.intro;obtain ⟨lv,st,ns,nc⟩:=wq [0,1,2,4,6,8,9,10,11,18] [];refine wk ?_;clear nc ns st lv;repeat' (first|with_reducible constructor|(with_reducible intro hc;try simp only[A1] at hc))
   exact ⟨_,A0.refl _,Nat.le_refl _,_,_,rfl,rfl,.inl ⟨hpre,rfl⟩⟩
 ·rintro r hr y H' (⟨h,rfl⟩ | ⟨h,rfl⟩)
  ·refine .inl ⟨rfl,?_⟩
   rw [h] at hR
   have nS:=True.intro;obtain ⟨lv,st,ns,nc⟩:=wq [0,1,2,4,5,6,9,14,15,16,28] [];have pr : AC []:=trivial;refine wd ?_;clear nc ns st lv pr;repeat' (first|with_reducible constructor|(with_reducible intro hc;try simp only[A1] at hc))
   refine ⟨_,_,rfl,rfl,?_⟩;simp [AH,A6,A5,A4,hR]
  ·refine .inr ⟨.ret,rfl,?_⟩
   rw [h] at hR
   have nS:=True.intro;obtain ⟨lv,st,ns,nc⟩:=wq [0,1,2,4,5,6,9,14,15,16,28] [];have pr : AC []:=trivial;refine wd ?_;clear nc ns st lv pr;repeat' (first|with_reducible constructor|(with_reducible intro hc;try simp only[A1] at hc))
   refine ⟨_,_,rfl,rfl,?_⟩;simp [AH,A6,A5,A4,hR]
end Go.Proofs.YtagnjflbhjmefaaGreat
