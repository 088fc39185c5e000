/- Part 16 of the texts of this proof, put together by a program and made short.
Conditions: none; what each theorem asks stands in its own hypotheses. -/
import Derived.Test.YtagnjflbhjmefaaGreatRb15
import Derived.KernelRfl
import Derived.RangeFuncIn
import Derived.Sort.Grow
import Derived.Laws.Cover3
import Derived.RecoverIn
import Derived.ProofKit
import Derived.OpenShut
import Derived.CallsIn
import Derived.RangeFuncLeaves
import Derived.OrdersIn
import Derived.TacticsIn
import Derived.ChangeKeysEq
import Derived.Laws.AppendOwn
import Derived.Laws.OwnMore
import Derived.Laws.MakeOwn
import Derived.Laws.Rows
import Derived.Laws.Cells
import Derived.Laws.Tables
import Derived.Laws.CopyRow
import Derived.Laws.Strings
import Derived.Laws.IdiomStrings
import Derived.Laws.BytesArg
import Derived.Test.YtagnjflbhjmefaaGreatProg
set_option linter.unusedSimpArgs false
set_option linter.unusedVariables false
set_option linter.unnecessarySimpa false
set_option maxHeartbeats 40000000
namespace Go.Proofs.YtagnjflbhjmefaaGreat
open Go.Gar
set_option maxRecDepth 4000
structure View where
 id : Int
 base : List Int
 list : List Int
 pred : Int
 f : Nat → Int
def Pb (f : Nat → Int) : List Int:=[f 0,f 1,f 2,f 3,f 4,f 5,f 6,f 7,f 8,f 9,f 10,f 11,f 12,f 13,f 14,f 15]
def View.cells (v : View) : List D:=[.i .i64 v.id,.is v.base,.is v.list,.i .i64 v.pred,.i .i64 (v.f 0),.i .i64 (v.f 1),.i .i64 (v.f 2),.i .i64 (v.f 3),.i .i64 (v.f 4),.i .i64 (v.f 5),.i .i64 (v.f 6),.i .i64 (v.f 7),.i .i64 (v.f 8),.i .i64 (v.f 9),.i .i64 (v.f 10),.i .i64 (v.f 11),.i .i64 (v.f 12),.i .i64 (v.f 13),.i .i64 (v.f 14),.i .i64 (v.f 15)]
def View.d (v : View) : D:=.agg v.cells
def bT : Int → List Int → Bool
 | _,[] => true
 | f,p :: r => (Ay p && decide (p > f)) && bT p r
def lastB : Int → List Int → Int
 | f,[] => f
 | _,p :: r => lastB p r
theorem NK (p : Int) : ∀ (l : List Int) (f : Int),bT f (l ++ [p]) = (bT f l && (Ay p && decide (p > lastB f l)))
 | [],f => by simp [bT,lastB]
 | a :: r,f => by
  show ((Ay a && decide (a > f)) && bT a (r ++ [p])) = (((Ay a && decide (a > f)) && bT a r) && (Ay p && decide (p > lastB a r)))
  rw [NK p r]
  exact (Bool.and_assoc _ _ _).symm
theorem KE (p : Int) : ∀ (l : List Int) (f : Int),lastB f (l ++ [p]) = p
 | [],f => rfl
 | a :: r,f => by simp only [List.cons_append,lastB];exact KE p r _
theorem TH : ∀ (l m : List Int) (f : Int),bT f l = false → bT f (l ++ m) = false
 | [],m,f,h => by cases h
 | a :: r,m,f,h => by
  simp only [List.cons_append,bT,Bool.and_eq_false_iff] at h ⊢
  rcases h with h | h
  ·exact .inl h
  ·exact .inr (TH r m _ h)
theorem JM {f : Int} {l : List Int} {k : Nat} (h : bT f (l.take k) = false) : bT f l = false:=by
 rw [← List.take_append_drop k l];exact TH _ _ f h
theorem Ke {l : List Int} {k : Nat} {p : Int} (hp : l[k]? = some p) : lastB (-1) (l.take (k + 1)) = p:=by
 rw [AR hp,KE]
def BO (l : List Int) : Bool:=(decide (2 ≤ l.length) && decide (l.length ≤ 4)) && bT (-1) l
theorem LH (l : List Int) (hn : l.length ≤ 9223372036854775807) : Go.Gar.Fn Tryz.prog 159 [.is l] (.b (BO l)):=by
 refine A3 A8 Tryz.func159 rfl rfl (Nat.le_of_ble_eq_true rfl) ?_
 by_cases h2 : l.length < 2
 ·have f1 : decide ((l.length : Int) < 2) = true:=decide_eq_true (by omega)
  have hT : BO l = false:=by unfold BO;rw [decide_eq_false (show ¬ 2 ≤ l.length by omega)];rfl
  have nS:=f1;obtain ⟨lv,st,ns,nc⟩:=wq [0,2,3,4,12,13,14,15,16,35] [];refine wk ?_;clear nc ns st lv;repeat' (first|with_reducible constructor|(with_reducible intro hc;try simp only[A1] at hc))
  refine ⟨_,_,rfl,rfl,?_⟩;simp [AH,A6,A5,A4,hT]
 have f1 : decide ((l.length : Int) < 2) = false:=decide_eq_false (by omega)
 by_cases h4 : l.length > 4
 ·have f2 : decide ((l.length : Int) > 4) = true:=decide_eq_true (by omega)
  have hT : BO l = false:=by unfold BO;rw [decide_eq_false (show ¬ l.length ≤ 4 by omega),Bool.and_false];rfl
  have nS:=And.intro f1 f2;obtain ⟨lv,st,ns,nc⟩:=wq [0,2,3,4,12,13,14,15,16,35] [];refine wk ?_;clear nc ns st lv;repeat' (first|with_reducible constructor|(with_reducible intro hc;try simp only[A1] at hc))
  refine ⟨_,_,rfl,rfl,?_⟩;simp [AH,A6,A5,A4,hT]
 have f2 : decide ((l.length : Int) > 4) = false:=decide_eq_false (by omega)
 have hR : BO l = bT (-1) l:=by unfold BO;rw [decide_eq_true (show 2 ≤ l.length by omega),decide_eq_true (show l.length ≤ 4 by omega)];rfl
 have nS:=And.intro f1 f2;obtain ⟨lv,st,ns,nc⟩:=wq [0,2,3,4,12,13,14,15,16,35] [];refine wk ?_;clear nc ns st lv;repeat' (first|with_reducible constructor|(with_reducible intro hc;try simp only[A1] at hc))
 refine Aq (fun k => k ≤ l.length ∧ bT (-1) (l.take k) = true) (fun k : Nat => ⟨[(0,.d (.is l)),(2,.d (.b false)),(13,.d (.is l)),(14,.d (.i .i64 l.length)),(15,.d (.i .i64 k))],[],37⟩) (fun k => l.length - k) 0 ⟨Nat.zero_le _,rfl⟩ ?_ (Nat.le_refl _) ?_
 ·exact A0.ck rfl
 rintro k ⟨hk,hpre⟩
 by_cases hkl : k < l.length
 ·obtain ⟨p,hp⟩:=AG hkl
  have gp:=AY hp
  have hs:=NK p (l.take k) (-1)
  rw [← AR hp,hpre,Bool.true_and] at hs
  have c1:=EU p
  cases hpl : Ay p with
  | false =>
   rw [hpl] at c1 hs
   have hB:=JM hs
   rw [hB] at hR
   have nS:=gp;obtain ⟨lv,st,ns,nc⟩:=wq [0,2,3,4,12,13,14,15,16,35] [];have c1:=@c1;refine wk ?_;clear nc ns st lv c1;repeat' (first|with_reducible constructor|(with_reducible intro hc;try simp only[A1] at hc))
   refine ⟨_,_,rfl,rfl,?_⟩;simp [AH,A6,A5,A4,hR]
  | true =>
   rw [hpl] at c1 hs
   rw [Bool.true_and] at hs
   have hp0:=BN hpl
   by_cases k0 : k = 0
   ·subst k0
    have hok : bT (-1) (l.take 1) = true:=by
     rw [hs];exact decide_eq_true (by show p > -1;omega)
    have nS:=gp;obtain ⟨lv,st,ns,nc⟩:=wq [0,2,3,4,12,13,14,15,16,35] [];have c1:=@c1;refine wk ?_;clear nc ns st lv c1;repeat' (first|with_reducible constructor|(with_reducible intro hc;try simp only[A1] at hc))
    refine ⟨1,⟨hkl,hok⟩,by omega,Nat.le_refl _,?_⟩
    exact A0.ck rfl
   ·obtain ⟨q,hq⟩:=AG (xs:=l) (k:=k - 1) (by omega)
    have gq:=AY hq
    have hlq : lastB (-1) (l.take k) = q:=by
     have:=Ke hq
     rwa [show k - 1 + 1 = k by omega] at this
    have f4 : (k : Int) - 1 = ((k - 1 : Nat) : Int):=by omega
    have f3 : decide ((k : Int) > 0) = true:=decide_eq_true (by omega)
    rw [hlq] at hs
    by_cases hd : p > q
    ·rw [decide_eq_true hd] at hs
     have f5 : decide (p ≤ q) = false:=decide_eq_false (by omega)
     have nS:=And.intro gp (And.intro gq (And.intro f3 (And.intro f4 f5)));obtain ⟨lv,st,ns,nc⟩:=wq [0,2,3,4,12,13,14,15,16,35] [];have c1:=@c1;refine wk ?_;clear nc ns st lv c1;repeat' (first|with_reducible constructor|(with_reducible intro hc;try simp only[A1] at hc))
     refine ⟨k + 1,⟨hkl,hs⟩,by omega,Nat.le_refl _,?_⟩
     exact A0.ck rfl
    ·rw [decide_eq_false hd] at hs
     have hB:=JM hs
     rw [hB] at hR
     have f5 : decide (p ≤ q) = true:=decide_eq_true (by omega)
     have nS:=And.intro gp (And.intro gq (And.intro f3 (And.intro f4 f5)));obtain ⟨lv,st,ns,nc⟩:=wq [0,2,3,4,12,13,14,15,16,35] [];have c1:=@c1;refine wk ?_;clear nc ns st lv c1;repeat' (first|with_reducible constructor|(with_reducible intro hc;try simp only[A1] at hc))
     refine ⟨_,_,rfl,rfl,?_⟩;simp [AH,A6,A5,A4,hR]
 ·have e : k = l.length:=by omega
  subst e
  rw [List.take_length] at hpre
  rw [hpre] at hR
  have nS:=True.intro;obtain ⟨lv,st,ns,nc⟩:=wq [0,2,3,4,12,13,14,15,16,35] [];refine wk ?_;clear nc ns st lv;repeat' (first|with_reducible constructor|(with_reducible intro hc;try simp only[A1] at hc))
  refine ⟨_,_,rfl,rfl,?_⟩;simp [AH,A6,A5,A4,hR]
def EX (id n : Int) : Bool:=decide (n = -1) || (Ay n && decide (n ≠ id))
theorem Nl (v : View) (n : Int) : Go.Gar.Fn Tryz.prog 127 [v.d,.i .i64 n] (.b (EX v.id n)):=by
 obtain ⟨id,base,list,pred,f⟩:=v
 have c1:=H6 n
 refine A3 A8 Tryz.func127 rfl rfl (Nat.le_of_ble_eq_true rfl) ?_
 by_cases h1 : n = -1
 ·have f1:=Ar h1
  have e : EX id n = true:=by simp [EX,h1]
  have nS:=f1;obtain ⟨lv,st,ns,nc⟩:=wq [0,1,2,4] [];refine wk ?_;clear nc ns st lv;repeat' (first|with_reducible constructor|(with_reducible intro hc;try simp only[A1] at hc))
  refine ⟨_,_,rfl,rfl,?_⟩;simp [AH,A6,A5,A4,e]
 have f1:=eq_false' h1
 have e : EX id n = (Ay n && decide (n ≠ id)):=by simp [EX,h1]
 cases hp : Ay n with
 | false =>
  rw [hp] at c1 e
  have nS:=f1;obtain ⟨lv,st,ns,nc⟩:=wq [0,1,2,4] [];have c1:=@c1;refine wk ?_;clear nc ns st lv c1;repeat' (first|with_reducible constructor|(with_reducible intro hc;try simp only[A1] at hc))
  refine ⟨_,_,rfl,rfl,?_⟩;simp [AH,A6,A5,A4,e]
 | true =>
  rw [hp] at c1 e
  by_cases h2 : n = id
  ·have f2:=Bb h2
   have e2 : EX id n = false:=by rw [e];simp [h2]
   have nS:=And.intro f1 f2;obtain ⟨lv,st,ns,nc⟩:=wq [0,1,2,4] [];have c1:=@c1;refine wk ?_;clear nc ns st lv c1;repeat' (first|with_reducible constructor|(with_reducible intro hc;try simp only[A1] at hc))
   refine ⟨_,_,rfl,rfl,?_⟩;simp [AH,A6,A5,A4,e2]
  ·have f2:=Be h2
   have e2 : EX id n = true:=by rw [e];simp [h2]
   have nS:=And.intro f1 f2;obtain ⟨lv,st,ns,nc⟩:=wq [0,1,2,4] [];have c1:=@c1;refine wk ?_;clear nc ns st lv c1;repeat' (first|with_reducible constructor|(with_reducible intro hc;try simp only[A1] at hc))
   refine ⟨_,_,rfl,rfl,?_⟩;simp [AH,A6,A5,A4,e2]
def C1 (v : View) : Bool:=((Ay v.id && BO v.base) && Bz v.id v.list) && (EX v.id v.pred && (Pb v.f).all (EX v.id))
theorem f_all {f : Nat → Int} {id : Int} : (Pb f).all (EX id) = (EX id (f 0) && (EX id (f 1) && (EX id (f 2) && (EX id (f 3) && (EX id (f 4) && (EX id (f 5) && (EX id (f 6) && (EX id (f 7) && (EX id (f 8) && (EX id (f 9) && (EX id (f 10) && (EX id (f 11) && (EX id (f 12) && (EX id (f 13) && (EX id (f 14) && (EX id (f 15) && true)))))))))))))))):=rfl
theorem J0 (v : View) (hid : i64 v.id) (hli : ∀ y ∈ v.list,i64 y) (hb : v.base.length ≤ 9223372036854775807) (hl : v.list.length ≤ 9223372036854775807) : Go.Gar.Fn Tryz.prog 71 [v.d] (.b (C1 v)):=by
 obtain ⟨id,base,list,pred,f⟩:=v
 replace hid : i64 id:=hid
 replace hli : ∀ y ∈ list,i64 y:=hli
 replace hb : base.length ≤ 9223372036854775807:=hb
 replace hl : list.length ≤ 9223372036854775807:=hl
 have c1:=H6 id
 have c2:=Jy id list hid hli hl
 have c3:=Nl ⟨id,base,list,pred,f⟩ pred
 have c4:=Nl ⟨id,base,list,pred,f⟩
 have hR : C1 ⟨id,base,list,pred,f⟩ = (((Ay id && BO base) && Bz id list) && (EX id pred && (Pb f).all (EX id))):=rfl
 refine A3 A8 Tryz.func71 rfl rfl (Nat.le_of_ble_eq_true rfl) ?_
 cases h1 : Ay id with
 | false =>
  rw [h1] at c1 hR
  have nS:=True.intro;obtain ⟨lv,st,ns,nc⟩:=wq [0,1,2,3,4,35,40,67,69,78] [];have c1:=@c1;have pr : AC []:=trivial;refine wd ?_;clear nc ns st lv pr c1;repeat' (first|with_reducible constructor|(with_reducible intro hc;try simp only[A1] at hc))
  refine ⟨_,_,rfl,rfl,?_⟩;simp [AH,A6,A5,A4,hR]
 | true =>
 rw [h1] at c1 hR
 by_cases h2 : base.length < 2
 ·have f1 : decide ((base.length : Int) < 2) = true:=decide_eq_true (by omega)
  have hB : BO base = false:=by unfold BO;rw [decide_eq_false (show ¬ 2 ≤ base.length by omega)];rfl
  rw [hB] at hR
  have nS:=f1;obtain ⟨lv,st,ns,nc⟩:=wq [0,1,2,3,4,35,40,67,69,78] [];have c1:=@c1;have pr : AC []:=trivial;refine wd ?_;clear nc ns st lv pr c1;repeat' (first|with_reducible constructor|(with_reducible intro hc;try simp only[A1] at hc))
  refine ⟨_,_,rfl,rfl,?_⟩;simp [AH,A6,A5,A4,hR]
 have f1 : decide ((base.length : Int) < 2) = false:=decide_eq_false (by omega)
 by_cases h4 : base.length > 4
 ·have f2 : decide ((base.length : Int) > 4) = true:=decide_eq_true (by omega)
  have hB : BO base = false:=by unfold BO;rw [decide_eq_false (show ¬ base.length ≤ 4 by omega),Bool.and_false];rfl
  rw [hB] at hR
  have nS:=And.intro f1 f2;obtain ⟨lv,st,ns,nc⟩:=wq [0,1,2,3,4,35,40,67,69,78] [];have c1:=@c1;have pr : AC []:=trivial;refine wd ?_;clear nc ns st lv pr c1;repeat' (first|with_reducible constructor|(with_reducible intro hc;try simp only[A1] at hc))
  refine ⟨_,_,rfl,rfl,?_⟩;simp [AH,A6,A5,A4,hR]
 have f2 : decide ((base.length : Int) > 4) = false:=decide_eq_false (by omega)
 have hRB : BO base = bT (-1) base:=by unfold BO;rw [decide_eq_true (show 2 ≤ base.length by omega),decide_eq_true (show base.length ≤ 4 by omega)];rfl
 rw [hRB] at hR
 cases h3 : Bz id list with
 | false =>
  rw [h3] at c2 hR
  rw [Bool.and_false,Bool.false_and] at hR
  have nS:=And.intro f1 f2;obtain ⟨lv,st,ns,nc⟩:=wq [0,1,2,3,4,35,40,67,69,78] [];have c1:=@c1;have c2:=@c2;have pr : AC []:=trivial;refine wd ?_;clear nc ns st lv pr c2 c1;repeat' (first|with_reducible constructor|(with_reducible intro hc;try simp only[A1] at hc))
  refine ⟨_,_,rfl,rfl,?_⟩;simp [AH,A6,A5,A4,hR]
 | true =>
 rw [h3] at c2 hR
 cases h5 : EX id pred with
 | false =>
  change Go.Gar.Fn _ _ _ (.b (EX id pred)) at c3
  rw [h5] at c3 hR
  rw [Bool.false_and,Bool.and_false] at hR
  have nS:=And.intro f1 f2;obtain ⟨lv,st,ns,nc⟩:=wq [0,1,2,3,4,35,40,67,69,78] [];have c1:=@c1;have c2:=@c2;have c3:=@c3;have pr : AC []:=trivial;refine wd ?_;clear nc ns st lv pr c3 c2 c1;repeat' (first|with_reducible constructor|(with_reducible intro hc;try simp only[A1] at hc))
  refine ⟨_,_,rfl,rfl,?_⟩;simp [AH,A6,A5,A4,hR]
 | true =>
 change Go.Gar.Fn _ _ _ (.b (EX id pred)) at c3
 rw [h5] at c3 hR
 rw [Bool.true_and,Bool.and_true,Bool.true_and] at hR
 have nS:=And.intro f1 f2;obtain ⟨lv,st,ns,nc⟩:=wq [0,1,2,3,4,35,40,67,69,78] [];have c1:=@c1;have c2:=@c2;have c3:=@c3;have pr : AC []:=trivial;refine wd ?_;clear nc ns st lv pr c3 c2 c1;repeat' (first|with_reducible constructor|(with_reducible intro hc;try simp only[A1] at hc))
 refine Aq (fun k => k ≤ base.length ∧ bT (-1) (base.take k) = true) (fun k : Nat => ⟨[(1,.ptr 0 0 20),(2,.d (.b false)),(3,.d (.i .i64 k))],[.c [.d (.i .i64 id),.d (.is base),.d (.is list),.d (.i .i64 pred),.d (.i .i64 (f 0)),.d (.i .i64 (f 1)),.d (.i .i64 (f 2)),.d (.i .i64 (f 3)),.d (.i .i64 (f 4)),.d (.i .i64 (f 5)),.d (.i .i64 (f 6)),.d (.i .i64 (f 7)),.d (.i .i64 (f 8)),.d (.i .i64 (f 9)),.d (.i .i64 (f 10)),.d (.i .i64 (f 11)),.d (.i .i64 (f 12)),.d (.i .i64 (f 13)),.d (.i .i64 (f 14)),.d (.i .i64 (f 15))]],79⟩) (fun k => base.length - k) 0 ⟨Nat.zero_le _,rfl⟩ ?_ (Nat.le_refl _) ?_
 ·exact A0.ck rfl
 rintro k ⟨hk,hpre⟩
 by_cases hkl : k < base.length
 ·obtain ⟨p,hp⟩:=AG hkl
  have gp:=AY hp
  have hs:=NK p (base.take k) (-1)
  rw [← AR hp,hpre,Bool.true_and] at hs
  have d1:=H6 p
  cases hpl : Ay p with
  | false =>
   rw [hpl] at d1 hs
   rw [JM hs] at hR
   have nS:=gp;obtain ⟨lv,st,ns,nc⟩:=wq [0,1,2,3,4,35,40,67,69,78] [];have c1:=@d1;have pr : AC []:=trivial;refine wd ?_;clear nc ns st lv pr c1;repeat' (first|with_reducible constructor|(with_reducible intro hc;try simp only[A1] at hc))
   refine ⟨_,_,rfl,rfl,?_⟩;simp [AH,A6,A5,A4,hR]
  | true =>
   rw [hpl] at d1 hs
   rw [Bool.true_and] at hs
   have hp0:=BN hpl
   by_cases k0 : k = 0
   ·subst k0
    have hok : bT (-1) (base.take 1) = true:=by
     rw [hs];exact decide_eq_true (by show p > -1;omega)
    have nS:=gp;obtain ⟨lv,st,ns,nc⟩:=wq [0,1,2,3,4,35,40,67,69,78] [];have c1:=@d1;have pr : AC []:=trivial;refine wd ?_;clear nc ns st lv pr c1;repeat' (first|with_reducible constructor|(with_reducible intro hc;try simp only[A1] at hc))
    refine ⟨1,⟨hkl,hok⟩,by omega,Nat.le_refl _,?_⟩
    exact A0.ck rfl
   ·obtain ⟨q,hq⟩:=AG (xs:=base) (k:=k - 1) (by omega)
    have gq:=AY hq
    have hlq : lastB (-1) (base.take k) = q:=by
     have:=Ke hq
     rwa [show k - 1 + 1 = k by omega] at this
    have f4 : (k : Int) - 1 = ((k - 1 : Nat) : Int):=by omega
    have f3 : decide ((k : Int) > 0) = true:=decide_eq_true (by omega)
    rw [hlq] at hs
    by_cases hd : p > q
    ·rw [decide_eq_true hd] at hs
     have f5 : decide (p ≤ q) = false:=decide_eq_false (by omega)
     have nS:=And.intro gp (And.intro gq (And.intro f3 (And.intro f4 f5)));obtain ⟨lv,st,ns,nc⟩:=wq [0,1,2,3,4,35,40,67,69,78] [];have c1:=@d1;have pr : AC []:=trivial;refine wd ?_;clear nc ns st lv pr c1;repeat' (first|with_reducible constructor|(with_reducible intro hc;try simp only[A1] at hc))
     refine ⟨k + 1,⟨hkl,hs⟩,by omega,Nat.le_refl _,?_⟩
     exact A0.ck rfl
    ·rw [decide_eq_false hd] at hs
     rw [JM hs] at hR
     have f5 : decide (p ≤ q) = true:=decide_eq_true (by omega)
     have nS:=And.intro gp (And.intro gq (And.intro f3 (And.intro f4 f5)));obtain ⟨lv,st,ns,nc⟩:=wq [0,1,2,3,4,35,40,67,69,78] [];have c1:=@d1;have pr : AC []:=trivial;refine wd ?_;clear nc ns st lv pr c1;repeat' (first|with_reducible constructor|(with_reducible intro hc;try simp only[A1] at hc))
     refine ⟨_,_,rfl,rfl,?_⟩;simp [AH,A6,A5,A4,hR]
 ·have e : k = base.length:=by omega
  subst e
  rw [List.take_length] at hpre
  rw [hpre,Bool.true_and,f_all] at hR
  change ∀ n,Go.Gar.Fn _ _ _ (.b (EX id n)) at c4
  have nS:=True.intro;obtain ⟨lv,st,ns,nc⟩:=wq [0,1,2,3,4,35,40,67,69,78] [];have c1:=@c4;have un : No 17:=trivial;have pr : AC []:=trivial;refine wd ?_;clear nc ns st lv pr un c1;repeat' (first|with_reducible constructor|(with_reducible intro hc;try simp only[A1] at hc))
  all_goals first
   | (refine ⟨_,_,rfl,rfl,?_⟩;simp [AH,A6,A5,A4,hR];done)
   | (refine ⟨_,_,rfl,rfl,?_⟩;simp_all [BQ];done)
theorem Ki (v : View) (hid : i64 v.id) (hli : ∀ y ∈ v.list,i64 y) (hb : v.base.length ≤ 1000) (hl : v.list.length ≤ 1000) : Go.Gar.Fn Tryz.prog 71 [v.d] (.b (C1 v)):=J0 v hid hli (Nat.le_trans hb (by decide)) (Nat.le_trans hl (by decide))
def vC (id : Int) (base list : List Int) (pred : Int) (f : Nat → Int) : List AV:=[.d (.i .i64 id),.d (.is base),.d (.is list),.d (.i .i64 pred),.d (.i .i64 (f 0)),.d (.i .i64 (f 1)),.d (.i .i64 (f 2)),.d (.i .i64 (f 3)),.d (.i .i64 (f 4)),.d (.i .i64 (f 5)),.d (.i .i64 (f 6)),.d (.i .i64 (f 7)),.d (.i .i64 (f 8)),.d (.i .i64 (f 9)),.d (.i .i64 (f 10)),.d (.i .i64 (f 11)),.d (.i .i64 (f 12)),.d (.i .i64 (f 13)),.d (.i .i64 (f 14)),.d (.i .i64 (f 15))]
theorem VM (id : Int) (base list : List Int) (pred : Int) (f : Nat → Int) : BK Tryz.prog 161 [.d (View.d ⟨id,base,list,pred,f⟩)] [] (.fn (.func 224) [] [.ptr 0 0 20]) [.c [.d (.i .i64 id),.d (.is base),.d (.is list),.d (.i .i64 pred),.d (.i .i64 (f 0)),.d (.i .i64 (f 1)),.d (.i .i64 (f 2)),.d (.i .i64 (f 3)),.d (.i .i64 (f 4)),.d (.i .i64 (f 5)),.d (.i .i64 (f 6)),.d (.i .i64 (f 7)),.d (.i .i64 (f 8)),.d (.i .i64 (f 9)),.d (.i .i64 (f 10)),.d (.i .i64 (f 11)),.d (.i .i64 (f 12)),.d (.i .i64 (f 13)),.d (.i .i64 (f 14)),.d (.i .i64 (f 15))]]:=by
 refine AB A8 Tryz.func161 rfl rfl (Nat.le_of_ble_eq_true rfl) ?_
 have nS:=True.intro;obtain ⟨lv,st,ns,nc⟩:=wq [0,1,2] [];refine wk ?_;clear nc ns st lv;repeat' (first|with_reducible constructor|(with_reducible intro hc;try simp only[A1] at hc))
 exact ⟨_,(A0.ck rfl),Nat.zero_le _,_,_,rfl,rfl,rfl,rfl⟩
theorem K8 (v : View) (hb : v.base.length ≤ 9223372036854775807) (hl : v.list.length ≤ 9223372036854775807) : Go.Gar.Fn Tryz.prog 110 [v.d] (.b (C1 v)):=by
 obtain ⟨id,base,list,pred,f⟩:=v
 replace hb : base.length ≤ 9223372036854775807:=hb
 replace hl : list.length ≤ 9223372036854775807:=hl
 have c1:=EU id
 have c2:=LH base hb
 have c3:=PW id list hl
 have c4:=EU
 have hR : C1 ⟨id,base,list,pred,f⟩ = (((Ay id && BO base) && Bz id list) && (EX id pred && (Pb f).all (EX id))):=rfl
 refine A3 A8 Tryz.func110 rfl rfl (Nat.le_of_ble_eq_true rfl) ?_
 cases h1 : Ay id with
 | false =>
  rw [h1] at c1 hR
  have nS:=True.intro;obtain ⟨lv,st,ns,nc⟩:=wq [0,1,2,3,21,23,24,37] [];have c1:=@c1;have sc : No 3:=trivial;refine wk ?_;clear nc ns st lv sc c1;repeat' (first|with_reducible constructor|(with_reducible intro hc;try simp only[A1] at hc))
  refine ⟨_,_,rfl,rfl,?_⟩;simp [AH,A6,A5,A4,hR]
 | true =>
 rw [h1] at c1 hR
 cases h2 : BO base with
 | false =>
  rw [h2] at c2 hR
  have nS:=True.intro;obtain ⟨lv,st,ns,nc⟩:=wq [0,1,2,3,21,23,24,37] [];have c1:=@c1;have c2:=@c2;have sc : No 3:=trivial;refine wk ?_;clear nc ns st lv sc c2 c1;repeat' (first|with_reducible constructor|(with_reducible intro hc;try simp only[A1] at hc))
  refine ⟨_,_,rfl,rfl,?_⟩;simp [AH,A6,A5,A4,hR]
 | true =>
 rw [h2] at c2 hR
 cases h3 : Bz id list with
 | false =>
  rw [h3] at c3 hR
  have nS:=True.intro;obtain ⟨lv,st,ns,nc⟩:=wq [0,1,2,3,21,23,24,37] [];have c1:=@c1;have c2:=@c2;have c3:=@c3;have sc : No 3:=trivial;refine wk ?_;clear nc ns st lv sc c3 c2 c1;repeat' (first|with_reducible constructor|(with_reducible intro hc;try simp only[A1] at hc))
  refine ⟨_,_,rfl,rfl,?_⟩;simp [AH,A6,A5,A4,hR]
 | true =>
 rw [h3] at c3 hR
 simp only [Bool.and_self,Bool.true_and] at hR
 have nS:=True.intro;obtain ⟨lv,st,ns,nc⟩:=wq [0,1,2,3,21,23,24,37] [];have c1:=@c1;have c2:=@c2;have c3:=@c3;have d1:=Ds.mk [] (VM id base list pred f);have sc : No 3:=trivial;refine wk ?_;clear nc ns st lv sc d1 c3 c2 c1;repeat' (first|with_reducible constructor|(with_reducible intro hc;try simp only[A1] at hc))
 refine Bn (K:=fun r _ H' => ((EX id pred && (Pb f).all (EX id)) = true ∧ H' = [.c (vC id base list pred f),.c (vC id base list pred f),.lp r]) ∨
  ((EX id pred && (Pb f).all (EX id)) = false ∧ H' = [.c (vC id base list pred f),.c (vC id base list pred f),.lp (r.left (.goto 0))])) rfl (by first | (simp only [Ai,Ae,Nat.reduceAdd,Int.reduceAdd,Int.reduceSub,Int.reduceMul,Int.reduceToNat];done) | (simp only [Ai,Ae,Nat.reduceAdd,Int.reduceAdd,Int.reduceSub,Int.reduceMul,Int.reduceToNat];rfl) | rfl) (by first | (simp only [Ai,Ae,Nat.reduceAdd,Int.reduceAdd,Int.reduceSub,Int.reduceMul,Int.reduceToNat];done) | (simp only [Ai,Ae,Nat.reduceAdd,Int.reduceAdd,Int.reduceSub,Int.reduceMul,Int.reduceToNat];rfl) | rfl) (fun r => rfl) ?_ ?_
 ·intro r hr
  have hT : ∀ n,EX id n = true → YT Tryz.prog 2 [.d (.i .i64 n)] [.c (vC id base list pred f),.c (vC id base list pred f),.lp r] fun x K => x = .d (.b true) ∧ K = [.c (vC id base list pred f),.c (vC id base list pred f),.lp r]:=by
   intro n hn
   have d1:=EU n
   unfold vC
   refine B0 hr rfl rfl rfl ?_
   by_cases h5 : n = -1
   ·have f1:=Bb h5
    have nS:=True.intro;obtain ⟨lv,st,ns,nc⟩:=wq [0,1,2,3,21,23,24,37] [];have sc : No 3:=trivial;refine wk ?_;clear nc ns st lv sc;repeat' (first|with_reducible constructor|(with_reducible intro hc;try simp only[A1] at hc))
    refine ⟨rfl,CB (by first | (simp only [Ai,Ae,Nat.reduceAdd,Int.reduceAdd,Int.reduceSub,Int.reduceMul,Int.reduceToNat];done) | (simp only [Ai,Ae,Nat.reduceAdd,Int.reduceAdd,Int.reduceSub,Int.reduceMul,Int.reduceToNat];rfl) | rfl) ?_⟩
    have nS:=f1;obtain ⟨lv,st,ns,nc⟩:=wq [0,1,2,3,21,23,24,37] [];have sc : No 3:=trivial;refine wk ?_;clear nc ns st lv sc;repeat' (first|with_reducible constructor|(with_reducible intro hc;try simp only[A1] at hc))
    exact ⟨_,A0.refl _,Nat.le_refl _,rfl,rfl,rfl⟩
   ·have f1:=Be h5
    simp only [EX,h5,decide_false,Bool.false_or,Bool.and_eq_true,decide_eq_true_eq] at hn
    rw [hn.1] at d1
    have f2:=eq_false' hn.2
    have nS:=True.intro;obtain ⟨lv,st,ns,nc⟩:=wq [0,1,2,3,21,23,24,37] [];have sc : No 3:=trivial;refine wk ?_;clear nc ns st lv sc;repeat' (first|with_reducible constructor|(with_reducible intro hc;try simp only[A1] at hc))
    refine ⟨rfl,CB (by first | (simp only [Ai,Ae,Nat.reduceAdd,Int.reduceAdd,Int.reduceSub,Int.reduceMul,Int.reduceToNat];done) | (simp only [Ai,Ae,Nat.reduceAdd,Int.reduceAdd,Int.reduceSub,Int.reduceMul,Int.reduceToNat];rfl) | rfl) ?_⟩
    have nS:=And.intro f1 f2;obtain ⟨lv,st,ns,nc⟩:=wq [0,1,2,3,21,23,24,37] [];have c1:=@d1;have sc : No 3:=trivial;refine wk ?_;clear nc ns st lv sc c1;repeat' (first|with_reducible constructor|(with_reducible intro hc;try simp only[A1] at hc))
    exact ⟨_,A0.refl _,Nat.le_refl _,rfl,rfl,rfl⟩
  have hF : ∀ n,EX id n = false → YT Tryz.prog 2 [.d (.i .i64 n)] [.c (vC id base list pred f),.c (vC id base list pred f),.lp r] fun x K => x = .d (.b false) ∧ K = [.c (vC id base list pred f),.c (vC id base list pred f),.lp (r.left (.goto 0))]:=by
   intro n hn
   have d1:=EU n
   unfold vC
   refine B0 hr rfl rfl rfl ?_
   have h5 : n ≠ -1:=fun h => by subst h;simp [EX] at hn
   have f1:=Be h5
   simp only [EX,h5,decide_false,Bool.false_or,Bool.and_eq_false_iff,decide_eq_false_iff_not,ne_eq,Classical.not_not] at hn
   cases hp : Ay n with
   | false =>
    rw [hp] at d1
    have nS:=True.intro;obtain ⟨lv,st,ns,nc⟩:=wq [0,1,2,3,21,23,24,37] [];have sc : No 3:=trivial;refine wk ?_;clear nc ns st lv sc;repeat' (first|with_reducible constructor|(with_reducible intro hc;try simp only[A1] at hc))
    refine ⟨rfl,CB (by first | (simp only [Ai,Ae,Nat.reduceAdd,Int.reduceAdd,Int.reduceSub,Int.reduceMul,Int.reduceToNat];done) | (simp only [Ai,Ae,Nat.reduceAdd,Int.reduceAdd,Int.reduceSub,Int.reduceMul,Int.reduceToNat];rfl) | rfl) ?_⟩
    have nS:=f1;obtain ⟨lv,st,ns,nc⟩:=wq [0,1,2,3,21,23,24,37] [];have c1:=@d1;have sc : No 3:=trivial;refine wk ?_;clear nc ns st lv sc c1;repeat' (first|with_reducible constructor|(with_reducible intro hc;try simp only[A1] at hc))
    exact ⟨_,A0.refl _,Nat.le_refl _,rfl,rfl,rfl⟩
   | true =>
    rw [hp] at d1 hn
    have f2:=Ar (hn.resolve_left (fun h => by cases h))
    have nS:=True.intro;obtain ⟨lv,st,ns,nc⟩:=wq [0,1,2,3,21,23,24,37] [];have sc : No 3:=trivial;refine wk ?_;clear nc ns st lv sc;repeat' (first|with_reducible constructor|(with_reducible intro hc;try simp only[A1] at hc))
    refine ⟨rfl,CB (by first | (simp only [Ai,Ae,Nat.reduceAdd,Int.reduceAdd,Int.reduceSub,Int.reduceMul,Int.reduceToNat];done) | (simp only [Ai,Ae,Nat.reduceAdd,Int.reduceAdd,Int.reduceSub,Int.reduceMul,Int.reduceToNat];rfl) | rfl) ?_⟩
    have nS:=And.intro f1 f2;obtain ⟨lv,st,ns,nc⟩:=wq [0,1,2,3,21,23,24,37] [];have c1:=@d1;have sc : No 3:=trivial;refine wk ?_;clear nc ns st lv sc c1;repeat' (first|with_reducible constructor|(with_reducible intro hc;try simp only[A1] at hc))
    exact ⟨_,A0.refl _,Nat.le_refl _,rfl,rfl,rfl⟩
  refine BP A8 Tryz.func224 rfl rfl (Nat.le_of_ble_eq_true rfl) ?_
  unfold vC at *
  have nS:=True.intro;obtain ⟨lv,st,ns,nc⟩:=wq [0,1,4,9,11,12,13,18] [];have g1T:=@hT;have g1F:=@hF;have un : No 17:=trivial;refine wk ?_;clear nc ns st lv un g1F g1T;repeat' (first|with_reducible constructor|(with_reducible intro hc;try simp only[A1] at hc))
  all_goals first
   | exact ⟨_,A0.refl _,Nat.le_refl _,_,_,rfl,rfl,.inl ⟨by rw [f_all];simp only [*,Bool.and_self],rfl⟩⟩
   | exact ⟨_,A0.refl _,Nat.le_refl _,_,_,rfl,rfl,.inr ⟨by rw [f_all];simp only [*,Bool.and_false,Bool.false_and,Bool.and_true,Bool.true_and],rfl⟩⟩
 ·rintro r hr y H' (⟨h,rfl⟩ | ⟨h,rfl⟩)
  ·refine .inl ⟨rfl,?_⟩
   rw [h] at hR
   unfold vC
   have nS:=True.intro;obtain ⟨lv,st,ns,nc⟩:=wq [0,1,2,3,21,23,24,37] [];have sc : No 3:=trivial;refine wk ?_;clear nc ns st lv sc;repeat' (first|with_reducible constructor|(with_reducible intro hc;try simp only[A1] at hc))
   refine ⟨_,_,rfl,rfl,?_⟩;simp [AH,A6,A5,A4,hR]
  ·refine .inr ⟨.goto 0,rfl,?_⟩
   rw [h] at hR
   unfold vC
   have nS:=True.intro;obtain ⟨lv,st,ns,nc⟩:=wq [0,1,2,3,21,23,24,37] [];have sc : No 3:=trivial;refine wk ?_;clear nc ns st lv sc;repeat' (first|with_reducible constructor|(with_reducible intro hc;try simp only[A1] at hc))
   refine ⟨_,_,rfl,rfl,?_⟩;simp [AH,A6,A5,A4,hR]
theorem Re (v : View) (hb : v.base.length ≤ 1000) (hl : v.list.length ≤ 1000) : Go.Gar.Fn Tryz.prog 110 [v.d] (.b (C1 v)):=K8 v (Nat.le_trans hb (by decide)) (Nat.le_trans hl (by decide))
end Go.Proofs.YtagnjflbhjmefaaGreat
