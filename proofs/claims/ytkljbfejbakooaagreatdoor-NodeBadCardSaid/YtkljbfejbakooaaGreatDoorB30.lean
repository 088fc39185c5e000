/- Part 30 of a proof, put together by a program. Conditions: none beyond those that a theorem states. -/
import Derived.Test.YtkljbfejbakooaaGreatDoorB11
import Derived.Test.YtkljbfejbakooaaGreatDoorB19
set_option linter.unusedSimpArgs false
set_option linter.unusedVariables false
set_option linter.unnecessarySimpa false
set_option maxHeartbeats 40000000
namespace Go.Proofs.YtkljbfejbakooaaGreatDoor
open Go.Gar
set_option maxRecDepth 4000
abbrev DJ : List Nat:=[0,1,4,5,9,44]
abbrev CS : List Nat:=[0,1,2,4,5,6,9,14,15,16,28]
abbrev DK : List Nat:=[0,1,2,4,6,8,9,10,11,18]
def rT (x : Int) : Int → List Int → Bool
 | _,[] => true
 | f,p :: r => (Bc p && decide (CL x p > f)) && rT x (CL x p) r
def HC (x : Int) : Int → List Int → Int
 | f,[] => f
 | _,p :: r => HC x (CL x p) r
theorem OX (x p : Int) : ∀ (l : List Int) (f : Int),rT x f (l ++ [p]) = (rT x f l && (Bc p && decide (CL x p > HC x f l)))
 | [],f => by simp [rT,HC]
 | a :: r,f => by
  show ((Bc a && decide (CL x a > f)) && rT x (CL x a) (r ++ [p])) = (((Bc a && decide (CL x a > f)) && rT x (CL x a) r) && (Bc p && decide (CL x p > HC x (CL x a) r)));rw [OX x p r];exact (Bool.and_assoc _ _ _).symm
theorem Lk (x p : Int) : ∀ (l : List Int) (f : Int),HC x f (l ++ [p]) = CL x p
 | [],f => rfl
 | a :: r,f => by simp only [List.cons_append,HC];exact Lk x p r _
theorem XU (x : Int) : ∀ (l m : List Int) (f : Int),rT x f l = false → rT x f (l ++ m) = false
 | [],m,f,h => by cases h
 | a :: r,m,f,h => by
  simp only [List.cons_append,rT,Bool.and_eq_false_iff] at h ⊢;rcases h with h | h
  ·exact .inl h
  ·exact .inr (XU x r m _ h)
variable {x : Int} {l : List Int} {k : Nat}
theorem OY {f : Int} (h : rT x f (l.take k) = false) : rT x f l = false:=by
 rw [← List.take_append_drop k l];exact XU x _ _ f h
variable {p : Int}
theorem IQ (hp : l[k]? = some p) : HC x 0 (l.take (k + 1)) = CL x p:=by
 rw [As hp,Lk]
def Bv (x : Int) (l : List Int) : Bool:=decide (l.length ≤ 3) && rT x 0 l
theorem R4 (x a b : Int) (hx : i64 x) (ha : i64 a) (hb : i64 b) : Go.Gar.Fn Tryz.prog 72 [.i .i64 x,.i .i64 a,.i .i64 b] (.b (decide (CL x b > CL x a))):=by
 have c1:=TT x b hx hb;have c2:=TT x a hx ha;refine zF A6 Tryz.func72 ?_;refine wk [0,1,2,6] [] A0 (BM @c1 @c2) ?_;exact zE
theorem WM (h : Bc p = true) : (p = FV x) ↔ CL x p = 0:=by
 have:=OE h;unfold FV CL;omega
theorem WL (x : Int) : CL x (FV x) = 0:=by unfold CL FV;omega
theorem Yy (x p : Int) : CL (FV x) p = CL x p:=by unfold CL FV;omega
theorem M9 (x : Int) (l : List Int) (hx : i64 x) (hl : ∀ y ∈ l,i64 y) (hn : l.length ≤ 9223372036854775807) : Go.Gar.Fn Tryz.prog 24 [.i .i64 x,.is l] (.b (Bv x l)):=by
 refine zF A6 Tryz.func24 ?_;refine wd DJ [] [] A0 A0 ?_;refine Ae (fun k => k ≤ l.length ∧ rT x 0 (l.take k) = true) (fun k : Nat => ⟨[(0,.d (.i .i64 x)),(1,.d (.is l)),(4,.d (.b false)),(5,.d (.i .i64 k))],[],48⟩) (fun k => l.length - k) 0 ⟨Nat.zero_le _,rfl⟩ ?_ (Nat.le_refl _) ?_
 ·exact A1.ck rfl
 rintro k ⟨hk,hpre⟩
 by_cases hkl : k < l.length
 ·obtain ⟨p,hp⟩:=Ah hkl;have gp:=FO hp;have hs:=OX x p (l.take k) 0;rw [← As hp,hpre,Bool.true_and] at hs;have hbad : rT x 0 (l.take (k + 1)) = false → Bv x l = false:=fun h => by unfold Bv;rw [OY h,Bool.and_false]
  have c1:=Rf p;have c2:=Cs x hx;have f0:=WM (x:=x) (p:=p);have hfl:=Sy x p
  cases hpl : Bc p with
  | false =>
   rw [hpl] at c1 hs;have hB:=hbad hs;refine wd DJ [] [] (AG gp) (AG @c1) ?_;with_reducible repeat' first|constructor|intro hc;try simp only[AB] at hc
   refine ⟨_,_,rfl,rfl,?_⟩;simp [Ab,A9,A4,A3,hB]
  | true =>
   rw [hpl] at c1 hs;rw [Bool.true_and] at hs
   by_cases he : p = FV x
   ·have hB:=hbad (by
     rw [hs,(f0 hpl).1 he];refine decide_eq_false ?_
     have : 0 ≤ HC x 0 (l.take k):=by
      cases k with
      | zero => exact Int.le_refl _
      | succ j =>
       obtain ⟨q,hq⟩:=Ah (xs:=l) (k:=j) (by omega);rw [IQ hq];exact (Sy x q).1
     omega)
    have f1:=B3 he;refine wd DJ [] [] (BM gp f1) (BM @c1 @c2) ?_;with_reducible repeat' first|constructor|intro hc;try simp only[AB] at hc
    refine ⟨_,_,rfl,rfl,?_⟩;simp [Ab,A9,A4,A3,hB]
   ·have f1:=eq_false' he
    by_cases k0 : k = 0
    ·subst k0
     have hok : rT x 0 (l.take 1) = true:=by
      rw [hs];refine decide_eq_true ?_;have h1 : CL x p ≠ 0:=fun h => he ((f0 hpl).2 h)
      show CL x p > 0;omega
     refine wd DJ [] [] (BM gp f1) (BM @c1 @c2) ?_;with_reducible repeat' first|constructor|intro hc;try simp only[AB] at hc
     refine ⟨1,⟨hkl,hok⟩,by omega,Nat.le_refl _,?_⟩;exact A1.ck rfl
    ·obtain ⟨q,hq⟩:=Ah (xs:=l) (k:=k - 1) (by omega);have gq:=FO hq
     have hlq : HC x 0 (l.take k) = CL x q:=by
      have:=IQ (x:=x) hq;rwa [show k - 1 + 1 = k by omega] at this
     have c3:=R4 x q p hx (hl q (List.mem_of_getElem? hq)) (hl p (List.mem_of_getElem? hp));have f2 : (k : Int) - 1 = ((k - 1 : Nat) : Int):=by omega
     have f3 : decide ((k : Int) > 0) = true:=decide_eq_true (by omega);rw [hlq] at hs
     cases hd : decide (CL x p > CL x q) with
     | true =>
      rw [hd] at hs c3;refine wd DJ [] [] (L4 gp gq f1 f2 f3) (EP @c1 @c2 @c3) ?_;with_reducible repeat' first|constructor|intro hc;try simp only[AB] at hc
      refine ⟨k + 1,⟨hkl,hs⟩,by omega,Nat.le_refl _,?_⟩;exact A1.ck rfl
     | false =>
      rw [hd] at hs c3;have hB:=hbad hs;refine wd DJ [] [] (L4 gp gq f1 f2 f3) (EP @c1 @c2 @c3) ?_;with_reducible repeat' first|constructor|intro hc;try simp only[AB] at hc
      refine ⟨_,_,rfl,rfl,?_⟩;simp [Ab,A9,A4,A3,hB]
 ·have e : k = l.length:=by omega
  subst e;rw [List.take_length] at hpre;have hR : Bv x l = decide (l.length ≤ 3):=by unfold Bv;rw [hpre,Bool.and_true]
  by_cases h3 : l.length ≤ 3
  ·have f1 : decide ((l.length : Int) ≤ 3) = true:=decide_eq_true (by omega);have hT : Bv x l = true:=by rw [hR];exact decide_eq_true h3
   refine wd DJ [] [] (AG f1) A0 ?_;with_reducible repeat' first|constructor|intro hc;try simp only[AB] at hc
   refine ⟨_,_,rfl,rfl,?_⟩;simp [Ab,A9,A4,A3,hT]
  ·have f1 : decide ((l.length : Int) ≤ 3) = false:=decide_eq_false (by omega);have hT : Bv x l = false:=by rw [hR];exact decide_eq_false h3
   refine wd DJ [] [] (AG f1) A0 ?_;with_reducible repeat' first|constructor|intro hc;try simp only[AB] at hc
   refine ⟨_,_,rfl,rfl,?_⟩;simp [Ab,A9,A4,A3,hT]
theorem Es (x : Int) (l : List Int) (hx : i64 x) (hl : ∀ y ∈ l,i64 y) (hn : l.length ≤ 1000) : Go.Gar.Fn Tryz.prog 24 [.i .i64 x,.is l] (.b (Bv x l)):=M9 x l hx hl (Nat.le_trans hn (by decide))
theorem JO (x : Int) (l : List Int) : B4 Tryz.prog 238 [.d (.i .i64 x),.d (.is l)] [] (.fn (.func 299) [] [.ptr 0 0 1,.ptr 1 0 1]) [.c [.d (.i .i64 x)],.c [.d (.is l)]]:=by
 refine zD A6 Tryz.func238 ?_;refine wk [0,1,2,3,4] [] A0 A0 ?_;exact ⟨_,(A1.ck rfl),Nat.zero_le _,_,_,rfl,rfl,rfl,rfl⟩
def ahead (x : Int) (l : List Int) : Nat → Int
 | 0 => x
 | k + 1 => l.getD k 0
theorem Tq (x : Int) (l : List Int) (k : Nat) (hk : k ≤ l.length) : CL x (ahead (FV x) l k) = HC x 0 (l.take k):=by
 cases k with
 | zero => exact WL x
 | succ j =>
  obtain ⟨q,hq⟩:=Ah (xs:=l) (k:=j) (by omega);rw [IQ hq];show CL x (l.getD j 0) = _;rw [FO hq]
theorem RG (x : Int) (l : List Int) (hn : l.length ≤ 9223372036854775807) : Go.Gar.Fn Tryz.prog 161 [.i .i64 x,.is l] (.b (Bv x l)):=by
 refine zF A6 Tryz.func161 ?_
 by_cases h3 : l.length > 3
 ·have f1 : decide ((l.length : Int) > 3) = true:=decide_eq_true (by omega);have hT : Bv x l = false:=by unfold Bv;rw [decide_eq_false (by omega)];rfl
  refine wd CS [] [] (AG f1) A0 ?_;refine ⟨_,_,rfl,rfl,?_⟩;simp [Ab,A9,A4,A3,hT]
 have f1 : decide ((l.length : Int) > 3) = false:=decide_eq_false (by omega);have hR : Bv x l = rT x 0 l:=by unfold Bv;rw [decide_eq_true (by omega)];rfl
 have cx:=If x;have d1:=Ds.mk [] (JO (FV x) l);refine wd CS [] [] (AG f1) (AG @cx) ?_;clear d1
 refine zG (K:=fun r _ H' => (rT x 0 l = true ∧ H' = [.c [.d (.i .i64 (FV x))],.c [.d (.b false)],.c [.d (.i .i64 (FV x))],.c [.d (.is l)],.lp r]) ∨
  (rT x 0 l = false ∧ H' = [.c [.d (.i .i64 (FV x))],.c [.d (.b false)],.c [.d (.i .i64 (FV x))],.c [.d (.is l)],.lp (r.left .ret)])) ?_ ?_
 ·intro r hr;refine zT A6 Tryz.func299 ?_;refine wk DK [] A0 A0 ?_;have hk:=hr.ok (k:=4) rfl;refine Ae (fun k => k ≤ l.length ∧ rT x 0 (l.take k) = true) (fun k : Nat => ⟨[(0,.yl 4),(1,.ptr 2 0 1),(2,.ptr 3 0 1),(4,.d (.i .i64 (ahead (FV x) l k))),(8,.d (.is l)),(9,.d (.i .i64 l.length)),(10,.d (.i .i64 k))],[.c [.d (.i .i64 (FV x))],.c [.d (.b false)],.c [.d (.i .i64 (FV x))],.c [.d (.is l)],.lp r],21⟩) (fun k => l.length - k) 0 ⟨Nat.zero_le _,rfl⟩ ?_ (Nat.le_refl _) ?_
  ·exact (have nC:=@ahead.eq_1;A1.cn rfl)
  rintro k ⟨hkk,hpre⟩
  by_cases hkl : k < l.length
  ·obtain ⟨p,hp⟩:=Ah hkl;have gp:=FO hp;have hs:=OX x p (l.take k) 0;rw [← As hp,hpre,Bool.true_and] at hs;have ha:=Tq x l k hkk;have ga : ahead (FV x) l (k + 1) = p:=gp;have c1:=UM p;have c2:=VJ (FV x) p;have c3:=VJ (FV x) (ahead (FV x) l k);rw [Yy] at c2 c3;rw [ha] at c3;generalize HC x 0 (l.take k) = lf at *;generalize ahead (FV x) l k = ak at *
   have hb : decide (CL x p ≤ lf) = !decide (CL x p > lf):=by
    by_cases h : CL x p > lf
    ·rw [decide_eq_true h,decide_eq_false (by omega)];rfl
    ·rw [decide_eq_false h,decide_eq_true (by omega)];rfl
   cases hpl : Bc p with
   | false =>
    rw [hpl] at c1 hs;refine wk DK [] (AG gp) A0 ?_;with_reducible repeat' first|constructor|intro hc;try simp only[AB] at hc
    refine Xy (x:=.d (.b false)) (H':=[.c [.d (.i .i64 (FV x))],.c [.d (.b false)],.c [.d (.i .i64 (FV x))],.c [.d (.is l)],.lp (r.left .ret)]) (BG hr rfl rfl rfl ?_) rfl rfl rfl rfl rfl ?_
    ·refine wd CS [] [] A0 A0 ?_;refine zR ?_;refine wd CS [] [] A0 (AG @c1) ?_;exact ⟨_,A1.refl _,Nat.le_refl _,rfl,rfl,rfl⟩
    ·refine wk DK [] A0 A0 ?_;exact ⟨_,A1.refl _,Nat.le_refl _,_,_,rfl,rfl,.inr ⟨OY hs,rfl⟩⟩
   | true =>
    rw [hpl] at c1 hs;rw [Bool.true_and] at hs
    cases hd : decide (CL x p > lf) with
    | false =>
     rw [hd] at hs hb;refine wk DK [] (AG gp) A0 ?_;with_reducible repeat' first|constructor|intro hc;try simp only[AB] at hc
     refine Xy (x:=.d (.b false)) (H':=[.c [.d (.i .i64 (FV x))],.c [.d (.b false)],.c [.d (.i .i64 (FV x))],.c [.d (.is l)],.lp (r.left .ret)]) (BG hr rfl rfl rfl ?_) rfl rfl rfl rfl rfl ?_
     ·refine wd CS [] [] A0 A0 ?_;refine zR ?_;refine wd CS [] [] (AG hb) (EP @c1 @c2 @c3) ?_;exact ⟨_,A1.refl _,Nat.le_refl _,rfl,rfl,rfl⟩
     ·refine wk DK [] A0 A0 ?_;exact ⟨_,A1.refl _,Nat.le_refl _,_,_,rfl,rfl,.inr ⟨OY hs,rfl⟩⟩
    | true =>
     rw [hd] at hs hb;refine wk DK [] (AG gp) A0 ?_;with_reducible repeat' first|constructor|intro hc;try simp only[AB] at hc
     refine Xy (x:=.d (.b true)) (H':=[.c [.d (.i .i64 (FV x))],.c [.d (.b false)],.c [.d (.i .i64 (FV x))],.c [.d (.is l)],.lp r]) (BG hr rfl rfl rfl ?_) rfl rfl rfl rfl rfl ?_
     ·refine wd CS [] [] A0 A0 ?_;refine zR ?_;refine wd CS [] [] (AG hb) (EP @c1 @c2 @c3) ?_;exact ⟨_,A1.refl _,Nat.le_refl _,rfl,rfl,rfl⟩
     ·refine wk DK [] A0 A0 ?_;refine ⟨k + 1,⟨hkl,hs⟩,by omega,Nat.le_refl _,?_⟩;exact (have nC:=ga;A1.cn rfl)
  ·have e : k = l.length:=by omega
   subst e;rw [List.take_length] at hpre;refine wk DK [] A0 A0 ?_;with_reducible repeat' first|constructor|intro hc;try simp only[AB] at hc
   exact ⟨_,A1.refl _,Nat.le_refl _,_,_,rfl,rfl,.inl ⟨hpre,rfl⟩⟩
 ·rintro r hr y H' (⟨h,rfl⟩ | ⟨h,rfl⟩)
  ·refine .inl ⟨rfl,?_⟩;rw [h] at hR;refine wd CS [] [] A0 A0 ?_;refine ⟨_,_,rfl,rfl,?_⟩;simp [Ab,A9,A4,A3,hR]
  ·refine .inr ⟨.ret,rfl,?_⟩;rw [h] at hR;refine wd CS [] [] A0 A0 ?_;refine ⟨_,_,rfl,rfl,?_⟩;simp [Ab,A9,A4,A3,hR]
abbrev DL : List Nat:=[0,2,3,4,12,13,14,15,16,35]
structure View where
 id : Int
 base : List Int
 list : List Int
 pred : Int
 f : Nat → Int
def GK (f : Nat → Int) : List Int:=[f 0,f 1,f 2,f 3,f 4,f 5,f 6,f 7,f 8,f 9,f 10,f 11,f 12,f 13,f 14,f 15]
def View.cells (v : View) : List D:=[.i .i64 v.id,.is v.base,.is v.list,.i .i64 v.pred,.i .i64 (v.f 0),.i .i64 (v.f 1),.i .i64 (v.f 2),.i .i64 (v.f 3),.i .i64 (v.f 4),.i .i64 (v.f 5),.i .i64 (v.f 6),.i .i64 (v.f 7),.i .i64 (v.f 8),.i .i64 (v.f 9),.i .i64 (v.f 10),.i .i64 (v.f 11),.i .i64 (v.f 12),.i .i64 (v.f 13),.i .i64 (v.f 14),.i .i64 (v.f 15)]
def View.d (v : View) : D:=.agg v.cells
def bT : Int → List Int → Bool
 | _,[] => true
 | f,p :: r => (Bc p && decide (p > f)) && bT p r
def lastB : Int → List Int → Int
 | f,[] => f
 | _,p :: r => lastB p r
theorem Nl (p : Int) : ∀ (l : List Int) (f : Int),bT f (l ++ [p]) = (bT f l && (Bc p && decide (p > lastB f l)))
 | [],f => by simp [bT,lastB]
 | a :: r,f => by
  show ((Bc a && decide (a > f)) && bT a (r ++ [p])) = (((Bc a && decide (a > f)) && bT a r) && (Bc p && decide (p > lastB a r)));rw [Nl p r];exact (Bool.and_assoc _ _ _).symm
theorem Li (p : Int) : ∀ (l : List Int) (f : Int),lastB f (l ++ [p]) = p
 | [],f => rfl
 | a :: r,f => by simp only [List.cons_append,lastB];exact Li p r _
theorem Vr : ∀ (l m : List Int) (f : Int),bT f l = false → bT f (l ++ m) = false
 | [],m,f,h => by cases h
 | a :: r,m,f,h => by
  simp only [List.cons_append,bT,Bool.and_eq_false_iff] at h ⊢;rcases h with h | h
  ·exact .inl h
  ·exact .inr (Vr r m _ h)
theorem Ki {f : Int} (h : bT f (l.take k) = false) : bT f l = false:=by
 rw [← List.take_append_drop k l];exact Vr _ _ f h
theorem Lj (hp : l[k]? = some p) : lastB (-1) (l.take (k + 1)) = p:=by
 rw [As hp,Li]
def C9 (l : List Int) : Bool:=(decide (2 ≤ l.length) && decide (l.length ≤ 4)) && bT (-1) l
theorem MZ (l : List Int) (hn : l.length ≤ 9223372036854775807) : Go.Gar.Fn Tryz.prog 160 [.is l] (.b (C9 l)):=by
 refine zF A6 Tryz.func160 ?_
 by_cases h2 : l.length < 2
 ·have f1 : decide ((l.length : Int) < 2) = true:=decide_eq_true (by omega);have hT : C9 l = false:=by unfold C9;rw [decide_eq_false (show ¬ 2 ≤ l.length by omega)];rfl
  refine wk DL [] (AG f1) A0 ?_;refine ⟨_,_,rfl,rfl,?_⟩;simp [Ab,A9,A4,A3,hT]
 have f1 : decide ((l.length : Int) < 2) = false:=decide_eq_false (by omega)
 by_cases h4 : l.length > 4
 ·have f2 : decide ((l.length : Int) > 4) = true:=decide_eq_true (by omega);have hT : C9 l = false:=by unfold C9;rw [decide_eq_false (show ¬ l.length ≤ 4 by omega),Bool.and_false];rfl
  refine wk DL [] (BM f1 f2) A0 ?_;refine ⟨_,_,rfl,rfl,?_⟩;simp [Ab,A9,A4,A3,hT]
 have f2 : decide ((l.length : Int) > 4) = false:=decide_eq_false (by omega);have hR : C9 l = bT (-1) l:=by unfold C9;rw [decide_eq_true (show 2 ≤ l.length by omega),decide_eq_true (show l.length ≤ 4 by omega)];rfl
 refine wk DL [] (BM f1 f2) A0 ?_;refine Ae (fun k => k ≤ l.length ∧ bT (-1) (l.take k) = true) (fun k : Nat => ⟨[(0,.d (.is l)),(2,.d (.b false)),(13,.d (.is l)),(14,.d (.i .i64 l.length)),(15,.d (.i .i64 k))],[],37⟩) (fun k => l.length - k) 0 ⟨Nat.zero_le _,rfl⟩ ?_ (Nat.le_refl _) ?_
 ·exact A1.ck rfl
 rintro k ⟨hk,hpre⟩
 by_cases hkl : k < l.length
 ·obtain ⟨p,hp⟩:=Ah hkl;have gp:=FO hp;have hs:=Nl p (l.take k) (-1);rw [← As hp,hpre,Bool.true_and] at hs;have c1:=F1 p
  cases hpl : Bc p with
  | false =>
   rw [hpl] at c1 hs;have hB:=Ki hs;rw [hB] at hR;refine wk DL [] (AG gp) (AG @c1) ?_;with_reducible repeat' first|constructor|intro hc;try simp only[AB] at hc
   refine ⟨_,_,rfl,rfl,?_⟩;simp [Ab,A9,A4,A3,hR]
  | true =>
   rw [hpl] at c1 hs;rw [Bool.true_and] at hs;have hp0:=OE hpl
   by_cases k0 : k = 0
   ·subst k0
    have hok : bT (-1) (l.take 1) = true:=by
     rw [hs];exact decide_eq_true (by show p > -1;omega)
    refine wk DL [] (AG gp) (AG @c1) ?_;with_reducible repeat' first|constructor|intro hc;try simp only[AB] at hc
    refine ⟨1,⟨hkl,hok⟩,by omega,Nat.le_refl _,?_⟩;exact A1.ck rfl
   ·obtain ⟨q,hq⟩:=Ah (xs:=l) (k:=k - 1) (by omega);have gq:=FO hq
    have hlq : lastB (-1) (l.take k) = q:=by
     have:=Lj hq;rwa [show k - 1 + 1 = k by omega] at this
    have f4 : (k : Int) - 1 = ((k - 1 : Nat) : Int):=by omega
    have f3 : decide ((k : Int) > 0) = true:=decide_eq_true (by omega);rw [hlq] at hs
    by_cases hd : p > q
    ·rw [decide_eq_true hd] at hs;have f5 : decide (p ≤ q) = false:=decide_eq_false (by omega);refine wk DL [] (L4 gp gq f3 f4 f5) (AG @c1) ?_;with_reducible repeat' first|constructor|intro hc;try simp only[AB] at hc
     refine ⟨k + 1,⟨hkl,hs⟩,by omega,Nat.le_refl _,?_⟩;exact A1.ck rfl
    ·rw [decide_eq_false hd] at hs;have hB:=Ki hs;rw [hB] at hR;have f5 : decide (p ≤ q) = true:=decide_eq_true (by omega);refine wk DL [] (L4 gp gq f3 f4 f5) (AG @c1) ?_;with_reducible repeat' first|constructor|intro hc;try simp only[AB] at hc
     refine ⟨_,_,rfl,rfl,?_⟩;simp [Ab,A9,A4,A3,hR]
 ·have e : k = l.length:=by omega
  subst e;rw [List.take_length] at hpre;rw [hpre] at hR;refine wk DL [] A0 A0 ?_;with_reducible repeat' first|constructor|intro hc;try simp only[AB] at hc
  refine ⟨_,_,rfl,rfl,?_⟩;simp [Ab,A9,A4,A3,hR]
def EO (id n : Int) : Bool:=decide (n = -1) || (Bc n && decide (n ≠ id))
theorem Q7 (v : View) (n : Int) : Go.Gar.Fn Tryz.prog 76 [v.d,.i .i64 n] (.b (EO v.id n)):=by
 obtain ⟨id,base,list,pred,f⟩:=v;have c1:=IV n;refine zF A6 Tryz.func76 ?_
 by_cases h1 : n = -1
 ·have f1:=B3 h1;have e : EO id n = true:=by simp [EO,h1]
  refine wk [0,1,2,4] [] (AG f1) A0 ?_;refine ⟨_,_,rfl,rfl,?_⟩;simp [Ab,A9,A4,A3,e]
 have f1:=eq_false' h1;have e : EO id n = (Bc n && decide (n ≠ id)):=by simp [EO,h1]
 cases hp : Bc n with
 | false =>
  rw [hp] at c1 e;refine wk [0,1,2,4] [] (AG f1) (AG @c1) ?_;refine ⟨_,_,rfl,rfl,?_⟩;simp [Ab,A9,A4,A3,e]
 | true =>
  rw [hp] at c1 e
  by_cases h2 : n = id
  ·have f2:=C7 h2;have e2 : EO id n = false:=by rw [e];simp [h2]
   refine wk [0,1,2,4] [] (BM f1 f2) (AG @c1) ?_;refine ⟨_,_,rfl,rfl,?_⟩;simp [Ab,A9,A4,A3,e2]
  ·have f2:=C2 h2;have e2 : EO id n = true:=by rw [e];simp [h2]
   refine wk [0,1,2,4] [] (BM f1 f2) (AG @c1) ?_;refine ⟨_,_,rfl,rfl,?_⟩;simp [Ab,A9,A4,A3,e2]
def Ck (v : View) : Bool:=((Bc v.id && C9 v.base) && Bv v.id v.list) && (EO v.id v.pred && (GK v.f).all (EO v.id))
theorem Zn (v : View) (h1 : v.base.length ≤ 100000) (h2 : v.list.length ≤ 100000) : Go.Gar.Fn Tryz.prog 83 [v.d] v.d:=by
 obtain ⟨id,base,list,pred,f⟩:=v;have c1:=Ov base h1;have c2:=Ov list h2;refine zF A6 Tryz.func83 ?_;refine wk [0,1,2] [] A0 (BM @c1 @c2) ?_;refine ⟨_,_,rfl,rfl,?_⟩;simp [Ab,A9,A4,A3,View.d,View.cells]
theorem V8 (v : View) : Go.Gar.Fn Tryz.prog 28 [v.d] (.b (decide (v.base.length > 20 ∨ v.list.length > 20))):=by
 obtain ⟨id,base,list,pred,f⟩:=v;refine zF A6 Tryz.func28 ?_
 by_cases h1 : base.length > 20
 ·have f1 : decide ((base.length : Int) > 20) = true:=decide_eq_true (by omega);rw [decide_eq_true (show base.length > 20 ∨ list.length > 20 from .inl h1)];refine wk [0,1,2] [] (AG f1) A0 ?_;exact zE
 ·have f1 : decide ((base.length : Int) > 20) = false:=decide_eq_false (by omega)
  by_cases h2 : list.length > 20
  ·have f2 : decide ((list.length : Int) > 20) = true:=decide_eq_true (by omega);rw [decide_eq_true (show base.length > 20 ∨ list.length > 20 from .inr h2)];refine wk [0,1,2] [] (BM f1 f2) A0 ?_;exact zE
  ·have f2 : decide ((list.length : Int) > 20) = false:=decide_eq_false (by omega);rw [decide_eq_false (show ¬ (base.length > 20 ∨ list.length > 20) from fun h => h.elim h1 h2)];refine wk [0,1,2] [] (BM f1 f2) A0 ?_;exact zE
theorem fE (f g : Nat → Int) : Gf [.i .i64 (f 0),.i .i64 (f 1),.i .i64 (f 2),.i .i64 (f 3),.i .i64 (f 4),.i .i64 (f 5),.i .i64 (f 6),.i .i64 (f 7),.i .i64 (f 8),.i .i64 (f 9),.i .i64 (f 10),.i .i64 (f 11),.i .i64 (f 12),.i .i64 (f 13),.i .i64 (f 14),.i .i64 (f 15)] [.i .i64 (g 0),.i .i64 (g 1),.i .i64 (g 2),.i .i64 (g 3),.i .i64 (g 4),.i .i64 (g 5),.i .i64 (g 6),.i .i64 (g 7),.i .i64 (g 8),.i .i64 (g 9),.i .i64 (g 10),.i .i64 (g 11),.i .i64 (g 12),.i .i64 (g 13),.i .i64 (g 14),.i .i64 (g 15)] = decide (GK f = GK g):=by
 simp [Gf,eq1,GK,DW]
def TY (v w : View) : Bool:=decide (v.id = w.id) && (decide (v.base = w.base) && (decide (v.list = w.list) && (decide (v.pred = w.pred) && decide (GK v.f = GK w.f))))
theorem Un (v w : View) (h1 : v.base.length ≤ 100000) (h2 : v.list.length ≤ 100000) : Go.Gar.Fn Tryz.prog 55 [v.d,w.d] (.b (TY v w)):=by
 obtain ⟨i1,b1,l1,p1,f1⟩:=v;obtain ⟨i2,b2,l2,p2,f2⟩:=w;have cB:=T9 b1 b2 h1;have cL:=T9 l1 l2 h2;have hF:=fE f1 f2;have hS : TY ⟨i1,b1,l1,p1,f1⟩ ⟨i2,b2,l2,p2,f2⟩ = (decide (i1 = i2) && (decide (b1 = b2) && (decide (l1 = l2) && (decide (p1 = p2) && decide (GK f1 = GK f2))))):=rfl;rw [hS];generalize decide (b1 = b2) = bb at *;generalize decide (l1 = l2) = bl at *;generalize decide (GK f1 = GK f2) = bf at *;refine zF A6 Tryz.func55 ?_
 by_cases e1 : i1 = i2
 ·have g1:=B3 e1;rw [decide_eq_true e1]
  cases bb with
  | false =>
   refine wk [0,1,2,3,4] [] (AG g1) (AG @cB) ?_;exact zE
  | true =>
   cases bl with
   | false =>
    refine wk [0,1,2,3,4] [] (AG g1) (BM @cB @cL) ?_;exact zE
   | true =>
    by_cases e2 : p1 = p2
    ·have g2:=B3 e2;rw [decide_eq_true e2];refine wk [0,1,2,3,4] [] (EP g1 g2 hF) (BM @cB @cL) ?_;exact zE
    ·have g2:=eq_false' e2;rw [decide_eq_false e2];refine wk [0,1,2,3,4] [] (BM g1 g2) (BM @cB @cL) ?_;exact zE
 ·have g1:=eq_false' e1;rw [decide_eq_false e1];refine wk [0,1,2,3,4] [] (AG g1) A0 ?_;exact zE
end Go.Proofs.YtkljbfejbakooaaGreatDoor
