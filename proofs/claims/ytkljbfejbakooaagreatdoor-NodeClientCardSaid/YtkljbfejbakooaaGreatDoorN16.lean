/- Part 16 of a proof, put together by a program. Conditions: none beyond those that a theorem states. -/
import Derived.Test.YtkljbfejbakooaaGreatDoorN11
import Derived.Test.YtkljbfejbakooaaGreatDoorN14
import Derived.Test.YtkljbfejbakooaaGreatDoorN15
set_option linter.unusedSimpArgs false
set_option linter.unusedVariables false
set_option linter.unnecessarySimpa false
set_option maxHeartbeats 40000000
namespace Go.Proofs.YtkljbfejbakooaaGreatDoor
open Go.Gar
set_option maxRecDepth 4000
abbrev Dz : List Nat:=[0,1,4,5,9,44]
abbrev Cy : List Nat:=[0,1,2,4,5,6,9,14,15,16,28]
abbrev E0 : List Nat:=[0,1,2,4,6,8,9,10,11,18]
def rT (x : Int) : Int → List Int → Bool
 | _,[] => true
 | f,p :: r => (Am p && decide (Af x p > f)) && rT x (Af x p) r
def IN (x : Int) : Int → List Int → Int
 | f,[] => f
 | _,p :: r => IN x (Af x p) r
theorem Qd (x p : Int) : ∀ (l : List Int) (f : Int),rT x f (l ++ [p]) = (rT x f l && (Am p && decide (Af x p > IN x f l)))
 | [],f => by simp [rT,IN]
 | a :: r,f => by
  show ((Am a && decide (Af x a > f)) && rT x (Af x a) (r ++ [p])) = (((Am a && decide (Af x a > f)) && rT x (Af x a) r) && (Am p && decide (Af x p > IN x (Af x a) r)));rw [Qd x p r];exact (Bool.and_assoc _ _ _).symm
theorem NX (x p : Int) : ∀ (l : List Int) (f : Int),IN x f (l ++ [p]) = Af x p
 | [],f => rfl
 | a :: r,f => by simp only [List.cons_append,IN];exact NX x p r _
theorem bH (x : Int) : ∀ (l m : List Int) (f : Int),rT x f l = false → rT x f (l ++ m) = false
 | [],m,f,h => by cases h
 | a :: r,m,f,h => by
  simp only [List.cons_append,rT,Bool.and_eq_false_iff] at h ⊢;rcases h with h | h
  ·exact .inl h
  ·exact .inr (bH x r m _ h)
variable {x : Int} {l : List Int} {k : Nat}
theorem Qe {f : Int} (h : rT x f (l.take k) = false) : rT x f l = false:=by
 rw [← List.take_append_drop k l];exact bH x _ _ f h
variable {p : Int}
theorem Jt (hp : l[k]? = some p) : IN x 0 (l.take (k + 1)) = Af x p:=by
 rw [AP hp,NX]
def C5 (x : Int) (l : List Int) : Bool:=decide (l.length ≤ 3) && rT x 0 l
theorem Te (x a b : Int) (hx : i64 x) (ha : i64 a) (hb : i64 b) : Go.Gar.Fn Tryz.prog 72 [.i .i64 x,.i .i64 a,.i .i64 b] (.b (decide (Af x b > Af x a))):=by
 have c1:=Mh x b hx hb;have c2:=Mh x a hx ha;refine zF A6 Tryz.func72 ?_;refine wk [0,1,2,6] [] A0 (Aj @c1 @c2) ?_;exact zE
theorem ZQ (h : Am p = true) : (p = Bj x) ↔ Af x p = 0:=by
 have:=F3 h;unfold Bj Af;omega
theorem ZP (x : Int) : Af x (Bj x) = 0:=by unfold Af Bj;omega
theorem dF (x p : Int) : Af (Bj x) p = Af x p:=by unfold Af Bj;omega
theorem Nw (x : Int) (l : List Int) (hx : i64 x) (hl : ∀ y ∈ l,i64 y) (hn : l.length ≤ 9223372036854775807) : Go.Gar.Fn Tryz.prog 24 [.i .i64 x,.is l] (.b (C5 x l)):=by
 refine zF A6 Tryz.func24 ?_;refine wd Dz [] [] A0 A0 ?_;refine Ac (fun k => k ≤ l.length ∧ rT x 0 (l.take k) = true) (fun k : Nat => ⟨[(0,.d (.i .i64 x)),(1,.d (.is l)),(4,.d (.b false)),(5,.d (.i .i64 k))],[],48⟩) (fun k => l.length - k) 0 ⟨Nat.zero_le _,rfl⟩ ?_ (Nat.le_refl _) ?_
 ·exact A3.ck rfl
 rintro k ⟨hk,hpre⟩
 by_cases hkl : k < l.length
 ·obtain ⟨p,hp⟩:=Aa hkl;have gp:=Cm hp;have hs:=Qd x p (l.take k) 0;rw [← AP hp,hpre,Bool.true_and] at hs;have hbad : rT x 0 (l.take (k + 1)) = false → C5 x l = false:=fun h => by unfold C5;rw [Qe h,Bool.and_false]
  have c1:=UL p;have c2:=Cb x hx;have f0:=ZQ (x:=x) (p:=p);have hfl:=VL x p
  cases hpl : Am p with
  | false =>
   rw [hpl] at c1 hs;have hB:=hbad hs;refine wd Dz [] [] (AF gp) (AF @c1) ?_;with_reducible repeat' first|constructor|intro hc;try simp only[AD] at hc
   refine ⟨_,_,rfl,rfl,?_⟩;simp [AR,AB,A7,A4,hB]
  | true =>
   rw [hpl] at c1 hs;rw [Bool.true_and] at hs
   by_cases he : p = Bj x
   ·have hB:=hbad (by
     rw [hs,(f0 hpl).1 he];refine decide_eq_false ?_
     have : 0 ≤ IN x 0 (l.take k):=by
      cases k with
      | zero => exact Int.le_refl _
      | succ j =>
       obtain ⟨q,hq⟩:=Aa (xs:=l) (k:=j) (by omega);rw [Jt hq];exact (VL x q).1
     omega)
    have f1:=AS he;refine wd Dz [] [] (Aj gp f1) (Aj @c1 @c2) ?_;with_reducible repeat' first|constructor|intro hc;try simp only[AD] at hc
    refine ⟨_,_,rfl,rfl,?_⟩;simp [AR,AB,A7,A4,hB]
   ·have f1:=eq_false' he
    by_cases k0 : k = 0
    ·subst k0
     have hok : rT x 0 (l.take 1) = true:=by
      rw [hs];refine decide_eq_true ?_;have h1 : Af x p ≠ 0:=fun h => he ((f0 hpl).2 h)
      show Af x p > 0;omega
     refine wd Dz [] [] (Aj gp f1) (Aj @c1 @c2) ?_;with_reducible repeat' first|constructor|intro hc;try simp only[AD] at hc
     refine ⟨1,⟨hkl,hok⟩,by omega,Nat.le_refl _,?_⟩;exact A3.ck rfl
    ·obtain ⟨q,hq⟩:=Aa (xs:=l) (k:=k - 1) (by omega);have gq:=Cm hq
     have hlq : IN x 0 (l.take k) = Af x q:=by
      have:=Jt (x:=x) hq;rwa [show k - 1 + 1 = k by omega] at this
     have c3:=Te x q p hx (hl q (List.mem_of_getElem? hq)) (hl p (List.mem_of_getElem? hp));have f2 : (k : Int) - 1 = ((k - 1 : Nat) : Int):=by omega
     have f3 : decide ((k : Int) > 0) = true:=decide_eq_true (by omega);rw [hlq] at hs
     cases hd : decide (Af x p > Af x q) with
     | true =>
      rw [hd] at hs c3;refine wd Dz [] [] (R2 gp gq f1 f2 f3) (Dl @c1 @c2 @c3) ?_;with_reducible repeat' first|constructor|intro hc;try simp only[AD] at hc
      refine ⟨k + 1,⟨hkl,hs⟩,by omega,Nat.le_refl _,?_⟩;exact A3.ck rfl
     | false =>
      rw [hd] at hs c3;have hB:=hbad hs;refine wd Dz [] [] (R2 gp gq f1 f2 f3) (Dl @c1 @c2 @c3) ?_;with_reducible repeat' first|constructor|intro hc;try simp only[AD] at hc
      refine ⟨_,_,rfl,rfl,?_⟩;simp [AR,AB,A7,A4,hB]
 ·have e : k = l.length:=by omega
  subst e;rw [List.take_length] at hpre;have hR : C5 x l = decide (l.length ≤ 3):=by unfold C5;rw [hpre,Bool.and_true]
  by_cases h3 : l.length ≤ 3
  ·have f1 : decide ((l.length : Int) ≤ 3) = true:=decide_eq_true (by omega);have hT : C5 x l = true:=by rw [hR];exact decide_eq_true h3
   refine wd Dz [] [] (AF f1) A0 ?_;with_reducible repeat' first|constructor|intro hc;try simp only[AD] at hc
   refine ⟨_,_,rfl,rfl,?_⟩;simp [AR,AB,A7,A4,hT]
  ·have f1 : decide ((l.length : Int) ≤ 3) = false:=decide_eq_false (by omega);have hT : C5 x l = false:=by rw [hR];exact decide_eq_false h3
   refine wd Dz [] [] (AF f1) A0 ?_;with_reducible repeat' first|constructor|intro hc;try simp only[AD] at hc
   refine ⟨_,_,rfl,rfl,?_⟩;simp [AR,AB,A7,A4,hT]
theorem J9 (x : Int) (l : List Int) (hx : i64 x) (hl : ∀ y ∈ l,i64 y) (hn : l.length ≤ 1000) : Go.Gar.Fn Tryz.prog 24 [.i .i64 x,.is l] (.b (C5 x l)):=Nw x l hx hl (Nat.le_trans hn (by decide))
theorem Kz (x : Int) (l : List Int) : Ao Tryz.prog 238 [.d (.i .i64 x),.d (.is l)] [] (.fn (.func 299) [] [.ptr 0 0 1,.ptr 1 0 1]) [.c [.d (.i .i64 x)],.c [.d (.is l)]]:=by
 refine zD A6 Tryz.func238 ?_;refine wk [0,1,2,3,4] [] A0 A0 ?_;exact ⟨_,(A3.ck rfl),Nat.zero_le _,_,_,rfl,rfl,rfl,rfl⟩
def ahead (x : Int) (l : List Int) : Nat → Int
 | 0 => x
 | k + 1 => l.getD k 0
theorem WC (x : Int) (l : List Int) (k : Nat) (hk : k ≤ l.length) : Af x (ahead (Bj x) l k) = IN x 0 (l.take k):=by
 cases k with
 | zero => exact ZP x
 | succ j =>
  obtain ⟨q,hq⟩:=Aa (xs:=l) (k:=j) (by omega);rw [Jt hq];show Af x (l.getD j 0) = _;rw [Cm hq]
theorem U1 (x : Int) (l : List Int) (hn : l.length ≤ 9223372036854775807) : Go.Gar.Fn Tryz.prog 161 [.i .i64 x,.is l] (.b (C5 x l)):=by
 refine zF A6 Tryz.func161 ?_
 by_cases h3 : l.length > 3
 ·have f1 : decide ((l.length : Int) > 3) = true:=decide_eq_true (by omega);have hT : C5 x l = false:=by unfold C5;rw [decide_eq_false (by omega)];rfl
  refine wd Cy [] [] (AF f1) A0 ?_;refine ⟨_,_,rfl,rfl,?_⟩;simp [AR,AB,A7,A4,hT]
 have f1 : decide ((l.length : Int) > 3) = false:=decide_eq_false (by omega);have hR : C5 x l = rT x 0 l:=by unfold C5;rw [decide_eq_true (by omega)];rfl
 have cx:=E4 x;have d1:=Ds.mk [] (Kz (Bj x) l);refine wd Cy [] [] (AF f1) (AF @cx) ?_;clear d1
 refine zG (K:=fun r _ H' => (rT x 0 l = true ∧ H' = [.c [.d (.i .i64 (Bj x))],.c [.d (.b false)],.c [.d (.i .i64 (Bj x))],.c [.d (.is l)],.lp r]) ∨
  (rT x 0 l = false ∧ H' = [.c [.d (.i .i64 (Bj x))],.c [.d (.b false)],.c [.d (.i .i64 (Bj x))],.c [.d (.is l)],.lp (r.left .ret)])) ?_ ?_
 ·intro r hr;refine zT A6 Tryz.func299 ?_;refine wk E0 [] A0 A0 ?_;have hk:=hr.ok (k:=4) rfl;refine Ac (fun k => k ≤ l.length ∧ rT x 0 (l.take k) = true) (fun k : Nat => ⟨[(0,.yl 4),(1,.ptr 2 0 1),(2,.ptr 3 0 1),(4,.d (.i .i64 (ahead (Bj x) l k))),(8,.d (.is l)),(9,.d (.i .i64 l.length)),(10,.d (.i .i64 k))],[.c [.d (.i .i64 (Bj x))],.c [.d (.b false)],.c [.d (.i .i64 (Bj x))],.c [.d (.is l)],.lp r],21⟩) (fun k => l.length - k) 0 ⟨Nat.zero_le _,rfl⟩ ?_ (Nat.le_refl _) ?_
  ·exact (have nC:=@ahead.eq_1;A3.cn rfl)
  rintro k ⟨hkk,hpre⟩
  by_cases hkl : k < l.length
  ·obtain ⟨p,hp⟩:=Aa hkl;have gp:=Cm hp;have hs:=Qd x p (l.take k) 0;rw [← AP hp,hpre,Bool.true_and] at hs;have ha:=WC x l k hkk;have ga : ahead (Bj x) l (k + 1) = p:=gp;have c1:=Wu p;have c2:=I4 (Bj x) p;have c3:=I4 (Bj x) (ahead (Bj x) l k);rw [dF] at c2 c3;rw [ha] at c3;generalize IN x 0 (l.take k) = lf at *;generalize ahead (Bj x) l k = ak at *
   have hb : decide (Af x p ≤ lf) = !decide (Af x p > lf):=by
    by_cases h : Af x p > lf
    ·rw [decide_eq_true h,decide_eq_false (by omega)];rfl
    ·rw [decide_eq_false h,decide_eq_true (by omega)];rfl
   cases hpl : Am p with
   | false =>
    rw [hpl] at c1 hs;refine wk E0 [] (AF gp) A0 ?_;with_reducible repeat' first|constructor|intro hc;try simp only[AD] at hc
    refine Xy (x:=.d (.b false)) (H':=[.c [.d (.i .i64 (Bj x))],.c [.d (.b false)],.c [.d (.i .i64 (Bj x))],.c [.d (.is l)],.lp (r.left .ret)]) (Az hr rfl rfl rfl ?_) rfl rfl rfl rfl rfl ?_
    ·refine wd Cy [] [] A0 A0 ?_;refine zR ?_;refine wd Cy [] [] A0 (AF @c1) ?_;exact ⟨_,A3.refl _,Nat.le_refl _,rfl,rfl,rfl⟩
    ·refine wk E0 [] A0 A0 ?_;exact ⟨_,A3.refl _,Nat.le_refl _,_,_,rfl,rfl,.inr ⟨Qe hs,rfl⟩⟩
   | true =>
    rw [hpl] at c1 hs;rw [Bool.true_and] at hs
    cases hd : decide (Af x p > lf) with
    | false =>
     rw [hd] at hs hb;refine wk E0 [] (AF gp) A0 ?_;with_reducible repeat' first|constructor|intro hc;try simp only[AD] at hc
     refine Xy (x:=.d (.b false)) (H':=[.c [.d (.i .i64 (Bj x))],.c [.d (.b false)],.c [.d (.i .i64 (Bj x))],.c [.d (.is l)],.lp (r.left .ret)]) (Az hr rfl rfl rfl ?_) rfl rfl rfl rfl rfl ?_
     ·refine wd Cy [] [] A0 A0 ?_;refine zR ?_;refine wd Cy [] [] (AF hb) (Dl @c1 @c2 @c3) ?_;exact ⟨_,A3.refl _,Nat.le_refl _,rfl,rfl,rfl⟩
     ·refine wk E0 [] A0 A0 ?_;exact ⟨_,A3.refl _,Nat.le_refl _,_,_,rfl,rfl,.inr ⟨Qe hs,rfl⟩⟩
    | true =>
     rw [hd] at hs hb;refine wk E0 [] (AF gp) A0 ?_;with_reducible repeat' first|constructor|intro hc;try simp only[AD] at hc
     refine Xy (x:=.d (.b true)) (H':=[.c [.d (.i .i64 (Bj x))],.c [.d (.b false)],.c [.d (.i .i64 (Bj x))],.c [.d (.is l)],.lp r]) (Az hr rfl rfl rfl ?_) rfl rfl rfl rfl rfl ?_
     ·refine wd Cy [] [] A0 A0 ?_;refine zR ?_;refine wd Cy [] [] (AF hb) (Dl @c1 @c2 @c3) ?_;exact ⟨_,A3.refl _,Nat.le_refl _,rfl,rfl,rfl⟩
     ·refine wk E0 [] A0 A0 ?_;refine ⟨k + 1,⟨hkl,hs⟩,by omega,Nat.le_refl _,?_⟩;exact (have nC:=ga;A3.cn rfl)
  ·have e : k = l.length:=by omega
   subst e;rw [List.take_length] at hpre;refine wk E0 [] A0 A0 ?_;with_reducible repeat' first|constructor|intro hc;try simp only[AD] at hc
   exact ⟨_,A3.refl _,Nat.le_refl _,_,_,rfl,rfl,.inl ⟨hpre,rfl⟩⟩
 ·rintro r hr y H' (⟨h,rfl⟩ | ⟨h,rfl⟩)
  ·refine .inl ⟨rfl,?_⟩;rw [h] at hR;refine wd Cy [] [] A0 A0 ?_;refine ⟨_,_,rfl,rfl,?_⟩;simp [AR,AB,A7,A4,hR]
  ·refine .inr ⟨.ret,rfl,?_⟩;rw [h] at hR;refine wd Cy [] [] A0 A0 ?_;refine ⟨_,_,rfl,rfl,?_⟩;simp [AR,AB,A7,A4,hR]
abbrev E1 : List Nat:=[0,2,3,4,12,13,14,15,16,35]
structure View where
 id : Int
 base : List Int
 list : List Int
 pred : Int
 f : Nat → Int
def EA (f : Nat → Int) : List Int:=[f 0,f 1,f 2,f 3,f 4,f 5,f 6,f 7,f 8,f 9,f 10,f 11,f 12,f 13,f 14,f 15]
def View.cells (v : View) : List D:=[.i .i64 v.id,.is v.base,.is v.list,.i .i64 v.pred,.i .i64 (v.f 0),.i .i64 (v.f 1),.i .i64 (v.f 2),.i .i64 (v.f 3),.i .i64 (v.f 4),.i .i64 (v.f 5),.i .i64 (v.f 6),.i .i64 (v.f 7),.i .i64 (v.f 8),.i .i64 (v.f 9),.i .i64 (v.f 10),.i .i64 (v.f 11),.i .i64 (v.f 12),.i .i64 (v.f 13),.i .i64 (v.f 14),.i .i64 (v.f 15)]
def View.d (v : View) : D:=.agg v.cells
def bT : Int → List Int → Bool
 | _,[] => true
 | f,p :: r => (Am p && decide (p > f)) && bT p r
def lastB : Int → List Int → Int
 | f,[] => f
 | _,p :: r => lastB p r
theorem Pl (p : Int) : ∀ (l : List Int) (f : Int),bT f (l ++ [p]) = (bT f l && (Am p && decide (p > lastB f l)))
 | [],f => by simp [bT,lastB]
 | a :: r,f => by
  show ((Am a && decide (a > f)) && bT a (r ++ [p])) = (((Am a && decide (a > f)) && bT a r) && (Am p && decide (p > lastB a r)));rw [Pl p r];exact (Bool.and_assoc _ _ _).symm
theorem NV (p : Int) : ∀ (l : List Int) (f : Int),lastB f (l ++ [p]) = p
 | [],f => rfl
 | a :: r,f => by simp only [List.cons_append,lastB];exact NV p r _
theorem Ym : ∀ (l m : List Int) (f : Int),bT f l = false → bT f (l ++ m) = false
 | [],m,f,h => by cases h
 | a :: r,m,f,h => by
  simp only [List.cons_append,bT,Bool.and_eq_false_iff] at h ⊢;rcases h with h | h
  ·exact .inl h
  ·exact .inr (Ym r m _ h)
theorem MP {f : Int} (h : bT f (l.take k) = false) : bT f l = false:=by
 rw [← List.take_append_drop k l];exact Ym _ _ f h
theorem NW (hp : l[k]? = some p) : lastB (-1) (l.take (k + 1)) = p:=by
 rw [AP hp,NV]
def BZ (l : List Int) : Bool:=(decide (2 ≤ l.length) && decide (l.length ≤ 4)) && bT (-1) l
theorem OO (l : List Int) (hn : l.length ≤ 9223372036854775807) : Go.Gar.Fn Tryz.prog 160 [.is l] (.b (BZ l)):=by
 refine zF A6 Tryz.func160 ?_
 by_cases h2 : l.length < 2
 ·have f1 : decide ((l.length : Int) < 2) = true:=decide_eq_true (by omega);have hT : BZ l = false:=by unfold BZ;rw [decide_eq_false (show ¬ 2 ≤ l.length by omega)];rfl
  refine wk E1 [] (AF f1) A0 ?_;refine ⟨_,_,rfl,rfl,?_⟩;simp [AR,AB,A7,A4,hT]
 have f1 : decide ((l.length : Int) < 2) = false:=decide_eq_false (by omega)
 by_cases h4 : l.length > 4
 ·have f2 : decide ((l.length : Int) > 4) = true:=decide_eq_true (by omega);have hT : BZ l = false:=by unfold BZ;rw [decide_eq_false (show ¬ l.length ≤ 4 by omega),Bool.and_false];rfl
  refine wk E1 [] (Aj f1 f2) A0 ?_;refine ⟨_,_,rfl,rfl,?_⟩;simp [AR,AB,A7,A4,hT]
 have f2 : decide ((l.length : Int) > 4) = false:=decide_eq_false (by omega);have hR : BZ l = bT (-1) l:=by unfold BZ;rw [decide_eq_true (show 2 ≤ l.length by omega),decide_eq_true (show l.length ≤ 4 by omega)];rfl
 refine wk E1 [] (Aj f1 f2) A0 ?_;refine Ac (fun k => k ≤ l.length ∧ bT (-1) (l.take k) = true) (fun k : Nat => ⟨[(0,.d (.is l)),(2,.d (.b false)),(13,.d (.is l)),(14,.d (.i .i64 l.length)),(15,.d (.i .i64 k))],[],37⟩) (fun k => l.length - k) 0 ⟨Nat.zero_le _,rfl⟩ ?_ (Nat.le_refl _) ?_
 ·exact A3.ck rfl
 rintro k ⟨hk,hpre⟩
 by_cases hkl : k < l.length
 ·obtain ⟨p,hp⟩:=Aa hkl;have gp:=Cm hp;have hs:=Pl p (l.take k) (-1);rw [← AP hp,hpre,Bool.true_and] at hs;have c1:=Fv p
  cases hpl : Am p with
  | false =>
   rw [hpl] at c1 hs;have hB:=MP hs;rw [hB] at hR;refine wk E1 [] (AF gp) (AF @c1) ?_;with_reducible repeat' first|constructor|intro hc;try simp only[AD] at hc
   refine ⟨_,_,rfl,rfl,?_⟩;simp [AR,AB,A7,A4,hR]
  | true =>
   rw [hpl] at c1 hs;rw [Bool.true_and] at hs;have hp0:=F3 hpl
   by_cases k0 : k = 0
   ·subst k0
    have hok : bT (-1) (l.take 1) = true:=by
     rw [hs];exact decide_eq_true (by show p > -1;omega)
    refine wk E1 [] (AF gp) (AF @c1) ?_;with_reducible repeat' first|constructor|intro hc;try simp only[AD] at hc
    refine ⟨1,⟨hkl,hok⟩,by omega,Nat.le_refl _,?_⟩;exact A3.ck rfl
   ·obtain ⟨q,hq⟩:=Aa (xs:=l) (k:=k - 1) (by omega);have gq:=Cm hq
    have hlq : lastB (-1) (l.take k) = q:=by
     have:=NW hq;rwa [show k - 1 + 1 = k by omega] at this
    have f4 : (k : Int) - 1 = ((k - 1 : Nat) : Int):=by omega
    have f3 : decide ((k : Int) > 0) = true:=decide_eq_true (by omega);rw [hlq] at hs
    by_cases hd : p > q
    ·rw [decide_eq_true hd] at hs;have f5 : decide (p ≤ q) = false:=decide_eq_false (by omega);refine wk E1 [] (R2 gp gq f3 f4 f5) (AF @c1) ?_;with_reducible repeat' first|constructor|intro hc;try simp only[AD] at hc
     refine ⟨k + 1,⟨hkl,hs⟩,by omega,Nat.le_refl _,?_⟩;exact A3.ck rfl
    ·rw [decide_eq_false hd] at hs;have hB:=MP hs;rw [hB] at hR;have f5 : decide (p ≤ q) = true:=decide_eq_true (by omega);refine wk E1 [] (R2 gp gq f3 f4 f5) (AF @c1) ?_;with_reducible repeat' first|constructor|intro hc;try simp only[AD] at hc
     refine ⟨_,_,rfl,rfl,?_⟩;simp [AR,AB,A7,A4,hR]
 ·have e : k = l.length:=by omega
  subst e;rw [List.take_length] at hpre;rw [hpre] at hR;refine wk E1 [] A0 A0 ?_;with_reducible repeat' first|constructor|intro hc;try simp only[AD] at hc
  refine ⟨_,_,rfl,rfl,?_⟩;simp [AR,AB,A7,A4,hR]
def Eg (id n : Int) : Bool:=decide (n = -1) || (Am n && decide (n ≠ id))
theorem Sf (v : View) (n : Int) : Go.Gar.Fn Tryz.prog 76 [v.d,.i .i64 n] (.b (Eg v.id n)):=by
 obtain ⟨id,base,list,pred,f⟩:=v;have c1:=K0 n;refine zF A6 Tryz.func76 ?_
 by_cases h1 : n = -1
 ·have f1:=AS h1;have e : Eg id n = true:=by simp [Eg,h1]
  refine wk [0,1,2,4] [] (AF f1) A0 ?_;refine ⟨_,_,rfl,rfl,?_⟩;simp [AR,AB,A7,A4,e]
 have f1:=eq_false' h1;have e : Eg id n = (Am n && decide (n ≠ id)):=by simp [Eg,h1]
 cases hp : Am n with
 | false =>
  rw [hp] at c1 e;refine wk [0,1,2,4] [] (AF f1) (AF @c1) ?_;refine ⟨_,_,rfl,rfl,?_⟩;simp [AR,AB,A7,A4,e]
 | true =>
  rw [hp] at c1 e
  by_cases h2 : n = id
  ·have f2:=CI h2;have e2 : Eg id n = false:=by rw [e];simp [h2]
   refine wk [0,1,2,4] [] (Aj f1 f2) (AF @c1) ?_;refine ⟨_,_,rfl,rfl,?_⟩;simp [AR,AB,A7,A4,e2]
  ·have f2:=CJ h2;have e2 : Eg id n = true:=by rw [e];simp [h2]
   refine wk [0,1,2,4] [] (Aj f1 f2) (AF @c1) ?_;refine ⟨_,_,rfl,rfl,?_⟩;simp [AR,AB,A7,A4,e2]
def Aw (v : View) : Bool:=((Am v.id && BZ v.base) && C5 v.id v.list) && (Eg v.id v.pred && (EA v.f).all (Eg v.id))
theorem Qs (v : View) (h1 : v.base.length ≤ 100000) (h2 : v.list.length ≤ 100000) : Go.Gar.Fn Tryz.prog 83 [v.d] v.d:=by
 obtain ⟨id,base,list,pred,f⟩:=v;have c1:=R3 base h1;have c2:=R3 list h2;refine zF A6 Tryz.func83 ?_;refine wk [0,1,2] [] A0 (Aj @c1 @c2) ?_;refine ⟨_,_,rfl,rfl,?_⟩;simp [AR,AB,A7,A4,View.d,View.cells]
theorem Xt (v : View) : Go.Gar.Fn Tryz.prog 28 [v.d] (.b (decide (v.base.length > 20 ∨ v.list.length > 20))):=by
 obtain ⟨id,base,list,pred,f⟩:=v;refine zF A6 Tryz.func28 ?_
 by_cases h1 : base.length > 20
 ·have f1 : decide ((base.length : Int) > 20) = true:=decide_eq_true (by omega);rw [decide_eq_true (show base.length > 20 ∨ list.length > 20 from .inl h1)];refine wk [0,1,2] [] (AF f1) A0 ?_;exact zE
 ·have f1 : decide ((base.length : Int) > 20) = false:=decide_eq_false (by omega)
  by_cases h2 : list.length > 20
  ·have f2 : decide ((list.length : Int) > 20) = true:=decide_eq_true (by omega);rw [decide_eq_true (show base.length > 20 ∨ list.length > 20 from .inr h2)];refine wk [0,1,2] [] (Aj f1 f2) A0 ?_;exact zE
  ·have f2 : decide ((list.length : Int) > 20) = false:=decide_eq_false (by omega);rw [decide_eq_false (show ¬ (base.length > 20 ∨ list.length > 20) from fun h => h.elim h1 h2)];refine wk [0,1,2] [] (Aj f1 f2) A0 ?_;exact zE
theorem fE (f g : Nat → Int) : IB [.i .i64 (f 0),.i .i64 (f 1),.i .i64 (f 2),.i .i64 (f 3),.i .i64 (f 4),.i .i64 (f 5),.i .i64 (f 6),.i .i64 (f 7),.i .i64 (f 8),.i .i64 (f 9),.i .i64 (f 10),.i .i64 (f 11),.i .i64 (f 12),.i .i64 (f 13),.i .i64 (f 14),.i .i64 (f 15)] [.i .i64 (g 0),.i .i64 (g 1),.i .i64 (g 2),.i .i64 (g 3),.i .i64 (g 4),.i .i64 (g 5),.i .i64 (g 6),.i .i64 (g 7),.i .i64 (g 8),.i .i64 (g 9),.i .i64 (g 10),.i .i64 (g 11),.i .i64 (g 12),.i .i64 (g 13),.i .i64 (g 14),.i .i64 (g 15)] = decide (EA f = EA g):=by
 simp [IB,eq1,EA,DK]
abbrev HD : List Nat:=[0,1,4,5,6,7,8,14]
abbrev HE : List Nat:=[0,2,3,4,6,7]
theorem aA (l : List Int) : Ao Tryz.prog 216 [.d (.is l)] [] (.fn (.func 296) [] [.ptr 0 0 1]) [.c [.d (.is l)]]:=by
 refine zD A6 Tryz.func216 ?_;refine wk [0,1,2] [] A0 A0 ?_;exact ⟨_,(A3.ck rfl),Nat.zero_le _,_,_,rfl,rfl,rfl,rfl⟩
def firstT : List Int → Int × Bool
 | [] => (0,false)
 | a :: _ => (a,true)
theorem Y5 (l : List Int) (hl : l.length ≤ 100000) : Go.Gar.Fn Tryz.prog 138 [.is l] (.tup [.i .i64 (firstT l).1,.b (firstT l).2]):=by
 refine zF A6 Tryz.func138 ?_;have d1:=Ds.mk [] (aA l);refine wk HE [] A0 A0 ?_;clear d1
 cases l with
 | nil =>
  refine zG (K:=fun r _ H' => H' = [.c [.d (.i .i64 0)],.c [.d (.b false)],.c [.d (.is [])],.lp r]) ?_ ?_
  ·intro r hr;refine zT A6 Tryz.func296 ?_;refine wk HD [] A0 A0 ?_;have hk:=hr.ok (k:=3) rfl;refine Ac (fun k => k = 0) (fun k : Nat => ⟨[(0,.yl 3),(1,.ptr 2 0 1),(5,.d (.is [])),(6,.d (.i .i64 0)),(7,.d (.i .i64 k))],[.c [.d (.i .i64 0)],.c [.d (.b false)],.c [.d (.is [])],.lp r],16⟩) (fun k => 0) 0 rfl ?_ (Nat.le_refl _) ?_
   ·exact A3.ck rfl
   rintro k rfl;refine wk HD [] A0 A0 ?_;exact ⟨_,A3.refl _,Nat.le_refl _,_,_,rfl,rfl,rfl⟩
  ·rintro r hr x H' rfl;refine .inl ⟨rfl,?_⟩;refine wk HE [] A0 A0 ?_;refine ⟨_,_,rfl,rfl,?_⟩;simp [AR,AB,A7,A4,firstT]
 | cons a t =>
  refine zG (K:=fun r _ H' => H' = [.c [.d (.i .i64 a)],.c [.d (.b true)],.c [.d (.is (a :: t))],.lp (r.left .ret)]) ?_ ?_
  ·intro r hr;refine zT A6 Tryz.func296 ?_;refine wk HD [] A0 A0 ?_;have hk:=hr.ok (k:=3) rfl;refine Ac (fun k => k = 0) (fun k : Nat => ⟨[(0,.yl 3),(1,.ptr 2 0 1),(5,.d (.is (a :: t))),(6,.d (.i .i64 (a :: t).length)),(7,.d (.i .i64 k))],[.c [.d (.i .i64 0)],.c [.d (.b false)],.c [.d (.is (a :: t))],.lp r],16⟩) (fun k => 0) 0 rfl ?_ (Nat.le_refl _) ?_
   ·exact A3.ck rfl
   rintro k rfl;have ga : (a :: t).getD 0 0 = a:=rfl;refine wk HD [] (AF ga) A0 ?_;with_reducible repeat' first|constructor|intro hc;try simp only[AD] at hc
   refine Xy (x:=.d (.b false)) (H':=[.c [.d (.i .i64 a)],.c [.d (.b true)],.c [.d (.is (a :: t))],.lp (r.left .ret)]) (Az hr rfl rfl rfl ?_) rfl rfl rfl rfl rfl ?_
   ·refine wk HE [] A0 A0 ?_;refine zR ?_;refine wk HE [] A0 A0 ?_;exact ⟨_,A3.refl _,Nat.le_refl _,rfl,rfl,rfl⟩
   ·refine wk HD [] A0 A0 ?_;exact ⟨_,A3.refl _,Nat.le_refl _,_,_,rfl,rfl,rfl⟩
  ·rintro r hr x H' rfl;refine .inr ⟨.ret,rfl,?_⟩;refine wk HE [] A0 A0 ?_;refine ⟨_,_,rfl,rfl,?_⟩;simp [AR,AB,A7,A4,firstT]
end Go.Proofs.YtkljbfejbakooaaGreatDoor
