/- Part 17 of a proof, put together by a program. Conditions: none beyond those that a theorem states. -/
import Derived.Test.YtkljbfejbakooaaGreatDoorN16
set_option linter.unusedSimpArgs false
set_option linter.unusedVariables false
set_option linter.unnecessarySimpa false
set_option maxHeartbeats 40000000
namespace Go.Proofs.YtkljbfejbakooaaGreatDoor
open Go.Gar
set_option maxRecDepth 4000
abbrev Cd : List Nat:=[0,1,2,3,4,35,40,67,69,78]
theorem f_all {f : Nat → Int} {id : Int} : (EA f).all (Eg id) = (Eg id (f 0) && (Eg id (f 1) && (Eg id (f 2) && (Eg id (f 3) && (Eg id (f 4) && (Eg id (f 5) && (Eg id (f 6) && (Eg id (f 7) && (Eg id (f 8) && (Eg id (f 9) && (Eg id (f 10) && (Eg id (f 11) && (Eg id (f 12) && (Eg id (f 13) && (Eg id (f 14) && (Eg id (f 15) && true)))))))))))))))):=rfl
theorem M3 (v : View) (hid : i64 v.id) (hli : ∀ y ∈ v.list,i64 y) (hb : v.base.length ≤ 9223372036854775807) (hl : v.list.length ≤ 9223372036854775807) : Go.Gar.Fn Tryz.prog 31 [v.d] (.b (Aw v)):=by
 obtain ⟨id,base,list,pred,f⟩:=v;replace hid : i64 id:=hid;replace hli : ∀ y ∈ list,i64 y:=hli;replace hb : base.length ≤ 9223372036854775807:=hb;replace hl : list.length ≤ 9223372036854775807:=hl;have c1:=K0 id;have c2:=Nw id list hid hli hl;have c3:=Sf ⟨id,base,list,pred,f⟩ pred;have c4:=Sf ⟨id,base,list,pred,f⟩;have hR : Aw ⟨id,base,list,pred,f⟩ = (((Am id && BZ base) && C5 id list) && (Eg id pred && (EA f).all (Eg id))):=rfl;refine zF A6 Tryz.func31 ?_
 cases h1 : Am id with
 | false =>
  rw [h1] at c1 hR;refine wd Cd [] [] A0 (AF @c1) ?_;refine ⟨_,_,rfl,rfl,?_⟩;simp [AR,AB,A7,A4,hR]
 | true =>
 rw [h1] at c1 hR
 by_cases h2 : base.length < 2
 ·have f1 : decide ((base.length : Int) < 2) = true:=decide_eq_true (by omega);have hB : BZ base = false:=by unfold BZ;rw [decide_eq_false (show ¬ 2 ≤ base.length by omega)];rfl
  rw [hB] at hR;refine wd Cd [] [] (AF f1) (AF @c1) ?_;refine ⟨_,_,rfl,rfl,?_⟩;simp [AR,AB,A7,A4,hR]
 have f1 : decide ((base.length : Int) < 2) = false:=decide_eq_false (by omega)
 by_cases h4 : base.length > 4
 ·have f2 : decide ((base.length : Int) > 4) = true:=decide_eq_true (by omega);have hB : BZ base = false:=by unfold BZ;rw [decide_eq_false (show ¬ base.length ≤ 4 by omega),Bool.and_false];rfl
  rw [hB] at hR;refine wd Cd [] [] (Aj f1 f2) (AF @c1) ?_;refine ⟨_,_,rfl,rfl,?_⟩;simp [AR,AB,A7,A4,hR]
 have f2 : decide ((base.length : Int) > 4) = false:=decide_eq_false (by omega);have hRB : BZ base = bT (-1) base:=by unfold BZ;rw [decide_eq_true (show 2 ≤ base.length by omega),decide_eq_true (show base.length ≤ 4 by omega)];rfl
 rw [hRB] at hR
 cases h3 : C5 id list with
 | false =>
  rw [h3] at c2 hR;rw [Bool.and_false,Bool.false_and] at hR;refine wd Cd [] [] (Aj f1 f2) (Aj @c1 @c2) ?_;refine ⟨_,_,rfl,rfl,?_⟩;simp [AR,AB,A7,A4,hR]
 | true =>
 rw [h3] at c2 hR
 cases h5 : Eg id pred with
 | false =>
  change Go.Gar.Fn _ _ _ (.b (Eg id pred)) at c3;rw [h5] at c3 hR;rw [Bool.false_and,Bool.and_false] at hR;refine wd Cd [] [] (Aj f1 f2) (Dl @c1 @c2 @c3) ?_;refine ⟨_,_,rfl,rfl,?_⟩;simp [AR,AB,A7,A4,hR]
 | true =>
 change Go.Gar.Fn _ _ _ (.b (Eg id pred)) at c3;rw [h5] at c3 hR;rw [Bool.true_and,Bool.and_true,Bool.true_and] at hR;refine wd Cd [] [] (Aj f1 f2) (Dl @c1 @c2 @c3) ?_;refine Ac (fun k => k ≤ base.length ∧ bT (-1) (base.take k) = true) (fun k : Nat => ⟨[(1,.ptr 0 0 20),(2,.d (.b false)),(3,.d (.i .i64 k))],[.c [.d (.i .i64 id),.d (.is base),.d (.is list),.d (.i .i64 pred),.d (.i .i64 (f 0)),.d (.i .i64 (f 1)),.d (.i .i64 (f 2)),.d (.i .i64 (f 3)),.d (.i .i64 (f 4)),.d (.i .i64 (f 5)),.d (.i .i64 (f 6)),.d (.i .i64 (f 7)),.d (.i .i64 (f 8)),.d (.i .i64 (f 9)),.d (.i .i64 (f 10)),.d (.i .i64 (f 11)),.d (.i .i64 (f 12)),.d (.i .i64 (f 13)),.d (.i .i64 (f 14)),.d (.i .i64 (f 15))]],79⟩) (fun k => base.length - k) 0 ⟨Nat.zero_le _,rfl⟩ ?_ (Nat.le_refl _) ?_
 ·exact A3.ck rfl
 rintro k ⟨hk,hpre⟩
 by_cases hkl : k < base.length
 ·obtain ⟨p,hp⟩:=Aa hkl;have gp:=Cm hp;have hs:=Pl p (base.take k) (-1);rw [← AP hp,hpre,Bool.true_and] at hs;have d1:=K0 p
  cases hpl : Am p with
  | false =>
   rw [hpl] at d1 hs;rw [MP hs] at hR;refine wd Cd [] [] (AF gp) (AF @d1) ?_;with_reducible repeat' first|constructor|intro hc;try simp only[AD] at hc
   refine ⟨_,_,rfl,rfl,?_⟩;simp [AR,AB,A7,A4,hR]
  | true =>
   rw [hpl] at d1 hs;rw [Bool.true_and] at hs;have hp0:=F3 hpl
   by_cases k0 : k = 0
   ·subst k0
    have hok : bT (-1) (base.take 1) = true:=by
     rw [hs];exact decide_eq_true (by show p > -1;omega)
    refine wd Cd [] [] (AF gp) (AF @d1) ?_;with_reducible repeat' first|constructor|intro hc;try simp only[AD] at hc
    refine ⟨1,⟨hkl,hok⟩,by omega,Nat.le_refl _,?_⟩;exact A3.ck rfl
   ·obtain ⟨q,hq⟩:=Aa (xs:=base) (k:=k - 1) (by omega);have gq:=Cm hq
    have hlq : lastB (-1) (base.take k) = q:=by
     have:=NW hq;rwa [show k - 1 + 1 = k by omega] at this
    have f4 : (k : Int) - 1 = ((k - 1 : Nat) : Int):=by omega
    have f3 : decide ((k : Int) > 0) = true:=decide_eq_true (by omega);rw [hlq] at hs
    by_cases hd : p > q
    ·rw [decide_eq_true hd] at hs;have f5 : decide (p ≤ q) = false:=decide_eq_false (by omega);refine wd Cd [] [] (R2 gp gq f3 f4 f5) (AF @d1) ?_;with_reducible repeat' first|constructor|intro hc;try simp only[AD] at hc
     refine ⟨k + 1,⟨hkl,hs⟩,by omega,Nat.le_refl _,?_⟩;exact A3.ck rfl
    ·rw [decide_eq_false hd] at hs;rw [MP hs] at hR;have f5 : decide (p ≤ q) = true:=decide_eq_true (by omega);refine wd Cd [] [] (R2 gp gq f3 f4 f5) (AF @d1) ?_;with_reducible repeat' first|constructor|intro hc;try simp only[AD] at hc
     refine ⟨_,_,rfl,rfl,?_⟩;simp [AR,AB,A7,A4,hR]
 ·have e : k = base.length:=by omega
  subst e;rw [List.take_length] at hpre;rw [hpre,Bool.true_and,f_all] at hR;change ∀ n,Go.Gar.Fn _ _ _ (.b (Eg id n)) at c4;have un : No 17:=trivial;refine wd Cd [] [] A0 (AF @c4) ?_;clear un;with_reducible repeat' first|constructor|intro hc;try simp only[AD] at hc
  all_goals first
   | (refine ⟨_,_,rfl,rfl,?_⟩;simp [AR,AB,A7,A4,hR];done)
   | (refine ⟨_,_,rfl,rfl,?_⟩;simp_all [BN];done)
theorem O3 (v : View) (hid : i64 v.id) (hli : ∀ y ∈ v.list,i64 y) (hb : v.base.length ≤ 1000) (hl : v.list.length ≤ 1000) : Go.Gar.Fn Tryz.prog 31 [v.d] (.b (Aw v)):=M3 v hid hli (Nat.le_trans hb (by decide)) (Nat.le_trans hl (by decide))
abbrev Bf : List Nat:=[0,1,2,3,21,23,24,37]
def vC (id : Int) (base list : List Int) (pred : Int) (f : Nat → Int) : List AV:=[.d (.i .i64 id),.d (.is base),.d (.is list),.d (.i .i64 pred),.d (.i .i64 (f 0)),.d (.i .i64 (f 1)),.d (.i .i64 (f 2)),.d (.i .i64 (f 3)),.d (.i .i64 (f 4)),.d (.i .i64 (f 5)),.d (.i .i64 (f 6)),.d (.i .i64 (f 7)),.d (.i .i64 (f 8)),.d (.i .i64 (f 9)),.d (.i .i64 (f 10)),.d (.i .i64 (f 11)),.d (.i .i64 (f 12)),.d (.i .i64 (f 13)),.d (.i .i64 (f 14)),.d (.i .i64 (f 15))]
theorem dj (id : Int) (base list : List Int) (pred : Int) (f : Nat → Int) : Ao Tryz.prog 162 [.d (View.d ⟨id,base,list,pred,f⟩)] [] (.fn (.func 240) [] [.ptr 0 0 20]) [.c [.d (.i .i64 id),.d (.is base),.d (.is list),.d (.i .i64 pred),.d (.i .i64 (f 0)),.d (.i .i64 (f 1)),.d (.i .i64 (f 2)),.d (.i .i64 (f 3)),.d (.i .i64 (f 4)),.d (.i .i64 (f 5)),.d (.i .i64 (f 6)),.d (.i .i64 (f 7)),.d (.i .i64 (f 8)),.d (.i .i64 (f 9)),.d (.i .i64 (f 10)),.d (.i .i64 (f 11)),.d (.i .i64 (f 12)),.d (.i .i64 (f 13)),.d (.i .i64 (f 14)),.d (.i .i64 (f 15))]]:=by
 refine zD A6 Tryz.func162 ?_;refine wk [0,1,2] [] A0 A0 ?_;exact ⟨_,(A3.ck rfl),Nat.zero_le _,_,_,rfl,rfl,rfl,rfl⟩
theorem OC (v : View) (hb : v.base.length ≤ 9223372036854775807) (hl : v.list.length ≤ 9223372036854775807) : Go.Gar.Fn Tryz.prog 93 [v.d] (.b (Aw v)):=by
 obtain ⟨id,base,list,pred,f⟩:=v;replace hb : base.length ≤ 9223372036854775807:=hb;replace hl : list.length ≤ 9223372036854775807:=hl;have c1:=Fv id;have c2:=OO base hb;have c3:=U1 id list hl;have c4:=Fv;have hR : Aw ⟨id,base,list,pred,f⟩ = (((Am id && BZ base) && C5 id list) && (Eg id pred && (EA f).all (Eg id))):=rfl;refine zF A6 Tryz.func93 ?_
 cases h1 : Am id with
 | false =>
  rw [h1] at c1 hR;have sc : No 3:=trivial;refine wk Bf [] A0 (AF @c1) ?_;clear sc;refine ⟨_,_,rfl,rfl,?_⟩;simp [AR,AB,A7,A4,hR]
 | true =>
 rw [h1] at c1 hR
 cases h2 : BZ base with
 | false =>
  rw [h2] at c2 hR;have sc : No 3:=trivial;refine wk Bf [] A0 (Aj @c1 @c2) ?_;clear sc;refine ⟨_,_,rfl,rfl,?_⟩;simp [AR,AB,A7,A4,hR]
 | true =>
 rw [h2] at c2 hR
 cases h3 : C5 id list with
 | false =>
  rw [h3] at c3 hR;have sc : No 3:=trivial;refine wk Bf [] A0 (Dl @c1 @c2 @c3) ?_;clear sc;refine ⟨_,_,rfl,rfl,?_⟩;simp [AR,AB,A7,A4,hR]
 | true =>
 rw [h3] at c3 hR;simp only [Bool.and_self,Bool.true_and] at hR;have d1:=Ds.mk [] (dj id base list pred f);have sc : No 3:=trivial;refine wk Bf [] A0 (Dl @c1 @c2 @c3) ?_;clear sc d1
 refine zG (K:=fun r _ H' => ((Eg id pred && (EA f).all (Eg id)) = true ∧ H' = [.c (vC id base list pred f),.c (vC id base list pred f),.lp r]) ∨
  ((Eg id pred && (EA f).all (Eg id)) = false ∧ H' = [.c (vC id base list pred f),.c (vC id base list pred f),.lp (r.left (.goto 0))])) ?_ ?_
 ·intro r hr
  have hT : ∀ n,Eg id n = true → YT Tryz.prog 2 [.d (.i .i64 n)] [.c (vC id base list pred f),.c (vC id base list pred f),.lp r] fun x K => x = .d (.b true) ∧ K = [.c (vC id base list pred f),.c (vC id base list pred f),.lp r]:=by
   intro n hn;have d1:=Fv n;unfold vC;refine Az hr rfl rfl rfl ?_
   by_cases h5 : n = -1
   ·have f1:=CI h5;have sc : No 3:=trivial;refine wk Bf [] A0 A0 ?_;clear sc;refine zR ?_;have sc : No 3:=trivial;refine wk Bf [] (AF f1) A0 ?_;clear sc;exact ⟨_,A3.refl _,Nat.le_refl _,rfl,rfl,rfl⟩
   ·have f1:=CJ h5;simp only [Eg,h5,decide_false,Bool.false_or,Bool.and_eq_true,decide_eq_true_eq] at hn;rw [hn.1] at d1;have f2:=eq_false' hn.2;have sc : No 3:=trivial;refine wk Bf [] A0 A0 ?_;clear sc;refine zR ?_;have sc : No 3:=trivial;refine wk Bf [] (Aj f1 f2) (AF @d1) ?_;clear sc;exact ⟨_,A3.refl _,Nat.le_refl _,rfl,rfl,rfl⟩
  have hF : ∀ n,Eg id n = false → YT Tryz.prog 2 [.d (.i .i64 n)] [.c (vC id base list pred f),.c (vC id base list pred f),.lp r] fun x K => x = .d (.b false) ∧ K = [.c (vC id base list pred f),.c (vC id base list pred f),.lp (r.left (.goto 0))]:=by
   intro n hn;have d1:=Fv n;unfold vC;refine Az hr rfl rfl rfl ?_;have h5 : n ≠ -1:=fun h => by subst h;simp [Eg] at hn
   have f1:=CJ h5;simp only [Eg,h5,decide_false,Bool.false_or,Bool.and_eq_false_iff,decide_eq_false_iff_not,ne_eq,Classical.not_not] at hn
   cases hp : Am n with
   | false =>
    rw [hp] at d1;have sc : No 3:=trivial;refine wk Bf [] A0 A0 ?_;clear sc;refine zR ?_;have sc : No 3:=trivial;refine wk Bf [] (AF f1) (AF @d1) ?_;clear sc;exact ⟨_,A3.refl _,Nat.le_refl _,rfl,rfl,rfl⟩
   | true =>
    rw [hp] at d1 hn;have f2:=AS (hn.resolve_left (fun h => by cases h));have sc : No 3:=trivial;refine wk Bf [] A0 A0 ?_;clear sc;refine zR ?_;have sc : No 3:=trivial;refine wk Bf [] (Aj f1 f2) (AF @d1) ?_;clear sc;exact ⟨_,A3.refl _,Nat.le_refl _,rfl,rfl,rfl⟩
  refine zT A6 Tryz.func240 ?_;unfold vC at *;have g1T:=@hT;have g1F:=@hF;have un : No 17:=trivial;refine wk [0,1,4,9,11,12,13,18] [] A0 A0 ?_;clear un g1F g1T;with_reducible repeat' first|constructor|intro hc;try simp only[AD] at hc
  all_goals first
   | exact ⟨_,A3.refl _,Nat.le_refl _,_,_,rfl,rfl,.inl ⟨by rw [f_all];simp only [*,Bool.and_self],rfl⟩⟩
   | exact ⟨_,A3.refl _,Nat.le_refl _,_,_,rfl,rfl,.inr ⟨by rw [f_all];simp only [*,Bool.and_false,Bool.false_and,Bool.and_true,Bool.true_and],rfl⟩⟩
 ·rintro r hr y H' (⟨h,rfl⟩ | ⟨h,rfl⟩)
  ·refine .inl ⟨rfl,?_⟩;rw [h] at hR;unfold vC;have sc : No 3:=trivial;refine wk Bf [] A0 A0 ?_;clear sc;refine ⟨_,_,rfl,rfl,?_⟩;simp [AR,AB,A7,A4,hR]
  ·refine .inr ⟨.goto 0,rfl,?_⟩;rw [h] at hR;unfold vC;have sc : No 3:=trivial;refine wk Bf [] A0 A0 ?_;clear sc;refine ⟨_,_,rfl,rfl,?_⟩;simp [AR,AB,A7,A4,hR]
theorem HA (v : View) (hb : v.base.length ≤ 1000) (hl : v.list.length ≤ 1000) : Go.Gar.Fn Tryz.prog 93 [v.d] (.b (Aw v)):=OC v (Nat.le_trans hb (by decide)) (Nat.le_trans hl (by decide))
end Go.Proofs.YtkljbfejbakooaaGreatDoor
