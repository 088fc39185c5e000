/- Part 31 of a proof, put together by a program. Conditions: none beyond those that a theorem states. -/
import Derived.Test.YtkljbfejbakooaaGreatDoorB30
set_option linter.unusedSimpArgs false
set_option linter.unusedVariables false
set_option linter.unnecessarySimpa false
set_option maxHeartbeats 40000000
namespace Go.Proofs.YtkljbfejbakooaaGreatDoor
open Go.Gar
set_option maxRecDepth 4000
abbrev CB : List Nat:=[0,1,2,3,4,35,40,67,69,78]
theorem f_all {f : Nat → Int} {id : Int} : (GK f).all (EO id) = (EO id (f 0) && (EO id (f 1) && (EO id (f 2) && (EO id (f 3) && (EO id (f 4) && (EO id (f 5) && (EO id (f 6) && (EO id (f 7) && (EO id (f 8) && (EO id (f 9) && (EO id (f 10) && (EO id (f 11) && (EO id (f 12) && (EO id (f 13) && (EO id (f 14) && (EO id (f 15) && true)))))))))))))))):=rfl
theorem QU (v : View) (hid : i64 v.id) (hli : ∀ y ∈ v.list,i64 y) (hb : v.base.length ≤ 9223372036854775807) (hl : v.list.length ≤ 9223372036854775807) : Go.Gar.Fn Tryz.prog 31 [v.d] (.b (Ck v)):=by
 obtain ⟨id,base,list,pred,f⟩:=v;replace hid : i64 id:=hid;replace hli : ∀ y ∈ list,i64 y:=hli;replace hb : base.length ≤ 9223372036854775807:=hb;replace hl : list.length ≤ 9223372036854775807:=hl;have c1:=IV id;have c2:=M9 id list hid hli hl;have c3:=Q7 ⟨id,base,list,pred,f⟩ pred;have c4:=Q7 ⟨id,base,list,pred,f⟩;have hR : Ck ⟨id,base,list,pred,f⟩ = (((Bc id && C9 base) && Bv id list) && (EO id pred && (GK f).all (EO id))):=rfl;refine zF A6 Tryz.func31 ?_
 cases h1 : Bc id with
 | false =>
  rw [h1] at c1 hR;refine wd CB [] [] A0 (AG @c1) ?_;refine ⟨_,_,rfl,rfl,?_⟩;simp [Ab,A9,A4,A3,hR]
 | true =>
 rw [h1] at c1 hR
 by_cases h2 : base.length < 2
 ·have f1 : decide ((base.length : Int) < 2) = true:=decide_eq_true (by omega);have hB : C9 base = false:=by unfold C9;rw [decide_eq_false (show ¬ 2 ≤ base.length by omega)];rfl
  rw [hB] at hR;refine wd CB [] [] (AG f1) (AG @c1) ?_;refine ⟨_,_,rfl,rfl,?_⟩;simp [Ab,A9,A4,A3,hR]
 have f1 : decide ((base.length : Int) < 2) = false:=decide_eq_false (by omega)
 by_cases h4 : base.length > 4
 ·have f2 : decide ((base.length : Int) > 4) = true:=decide_eq_true (by omega);have hB : C9 base = false:=by unfold C9;rw [decide_eq_false (show ¬ base.length ≤ 4 by omega),Bool.and_false];rfl
  rw [hB] at hR;refine wd CB [] [] (BM f1 f2) (AG @c1) ?_;refine ⟨_,_,rfl,rfl,?_⟩;simp [Ab,A9,A4,A3,hR]
 have f2 : decide ((base.length : Int) > 4) = false:=decide_eq_false (by omega);have hRB : C9 base = bT (-1) base:=by unfold C9;rw [decide_eq_true (show 2 ≤ base.length by omega),decide_eq_true (show base.length ≤ 4 by omega)];rfl
 rw [hRB] at hR
 cases h3 : Bv id list with
 | false =>
  rw [h3] at c2 hR;rw [Bool.and_false,Bool.false_and] at hR;refine wd CB [] [] (BM f1 f2) (BM @c1 @c2) ?_;refine ⟨_,_,rfl,rfl,?_⟩;simp [Ab,A9,A4,A3,hR]
 | true =>
 rw [h3] at c2 hR
 cases h5 : EO id pred with
 | false =>
  change Go.Gar.Fn _ _ _ (.b (EO id pred)) at c3;rw [h5] at c3 hR;rw [Bool.false_and,Bool.and_false] at hR;refine wd CB [] [] (BM f1 f2) (EP @c1 @c2 @c3) ?_;refine ⟨_,_,rfl,rfl,?_⟩;simp [Ab,A9,A4,A3,hR]
 | true =>
 change Go.Gar.Fn _ _ _ (.b (EO id pred)) at c3;rw [h5] at c3 hR;rw [Bool.true_and,Bool.and_true,Bool.true_and] at hR;refine wd CB [] [] (BM f1 f2) (EP @c1 @c2 @c3) ?_;refine Ae (fun k => k ≤ base.length ∧ bT (-1) (base.take k) = true) (fun k : Nat => ⟨[(1,.ptr 0 0 20),(2,.d (.b false)),(3,.d (.i .i64 k))],[.c [.d (.i .i64 id),.d (.is base),.d (.is list),.d (.i .i64 pred),.d (.i .i64 (f 0)),.d (.i .i64 (f 1)),.d (.i .i64 (f 2)),.d (.i .i64 (f 3)),.d (.i .i64 (f 4)),.d (.i .i64 (f 5)),.d (.i .i64 (f 6)),.d (.i .i64 (f 7)),.d (.i .i64 (f 8)),.d (.i .i64 (f 9)),.d (.i .i64 (f 10)),.d (.i .i64 (f 11)),.d (.i .i64 (f 12)),.d (.i .i64 (f 13)),.d (.i .i64 (f 14)),.d (.i .i64 (f 15))]],79⟩) (fun k => base.length - k) 0 ⟨Nat.zero_le _,rfl⟩ ?_ (Nat.le_refl _) ?_
 ·exact A1.ck rfl
 rintro k ⟨hk,hpre⟩
 by_cases hkl : k < base.length
 ·obtain ⟨p,hp⟩:=Ah hkl;have gp:=FO hp;have hs:=Nl p (base.take k) (-1);rw [← As hp,hpre,Bool.true_and] at hs;have d1:=IV p
  cases hpl : Bc p with
  | false =>
   rw [hpl] at d1 hs;rw [Ki hs] at hR;refine wd CB [] [] (AG gp) (AG @d1) ?_;with_reducible repeat' first|constructor|intro hc;try simp only[AB] at hc
   refine ⟨_,_,rfl,rfl,?_⟩;simp [Ab,A9,A4,A3,hR]
  | true =>
   rw [hpl] at d1 hs;rw [Bool.true_and] at hs;have hp0:=OE hpl
   by_cases k0 : k = 0
   ·subst k0
    have hok : bT (-1) (base.take 1) = true:=by
     rw [hs];exact decide_eq_true (by show p > -1;omega)
    refine wd CB [] [] (AG gp) (AG @d1) ?_;with_reducible repeat' first|constructor|intro hc;try simp only[AB] at hc
    refine ⟨1,⟨hkl,hok⟩,by omega,Nat.le_refl _,?_⟩;exact A1.ck rfl
   ·obtain ⟨q,hq⟩:=Ah (xs:=base) (k:=k - 1) (by omega);have gq:=FO hq
    have hlq : lastB (-1) (base.take k) = q:=by
     have:=Lj hq;rwa [show k - 1 + 1 = k by omega] at this
    have f4 : (k : Int) - 1 = ((k - 1 : Nat) : Int):=by omega
    have f3 : decide ((k : Int) > 0) = true:=decide_eq_true (by omega);rw [hlq] at hs
    by_cases hd : p > q
    ·rw [decide_eq_true hd] at hs;have f5 : decide (p ≤ q) = false:=decide_eq_false (by omega);refine wd CB [] [] (L4 gp gq f3 f4 f5) (AG @d1) ?_;with_reducible repeat' first|constructor|intro hc;try simp only[AB] at hc
     refine ⟨k + 1,⟨hkl,hs⟩,by omega,Nat.le_refl _,?_⟩;exact A1.ck rfl
    ·rw [decide_eq_false hd] at hs;rw [Ki hs] at hR;have f5 : decide (p ≤ q) = true:=decide_eq_true (by omega);refine wd CB [] [] (L4 gp gq f3 f4 f5) (AG @d1) ?_;with_reducible repeat' first|constructor|intro hc;try simp only[AB] at hc
     refine ⟨_,_,rfl,rfl,?_⟩;simp [Ab,A9,A4,A3,hR]
 ·have e : k = base.length:=by omega
  subst e;rw [List.take_length] at hpre;rw [hpre,Bool.true_and,f_all] at hR;change ∀ n,Go.Gar.Fn _ _ _ (.b (EO id n)) at c4;have un : No 17:=trivial;refine wd CB [] [] A0 (AG @c4) ?_;clear un;with_reducible repeat' first|constructor|intro hc;try simp only[AB] at hc
  all_goals first
   | (refine ⟨_,_,rfl,rfl,?_⟩;simp [Ab,A9,A4,A3,hR];done)
   | (refine ⟨_,_,rfl,rfl,?_⟩;simp_all [B9];done)
abbrev BK : List Nat:=[0,1,2,3,21,23,24,37]
def vC (id : Int) (base list : List Int) (pred : Int) (f : Nat → Int) : List AV:=[.d (.i .i64 id),.d (.is base),.d (.is list),.d (.i .i64 pred),.d (.i .i64 (f 0)),.d (.i .i64 (f 1)),.d (.i .i64 (f 2)),.d (.i .i64 (f 3)),.d (.i .i64 (f 4)),.d (.i .i64 (f 5)),.d (.i .i64 (f 6)),.d (.i .i64 (f 7)),.d (.i .i64 (f 8)),.d (.i .i64 (f 9)),.d (.i .i64 (f 10)),.d (.i .i64 (f 11)),.d (.i .i64 (f 12)),.d (.i .i64 (f 13)),.d (.i .i64 (f 14)),.d (.i .i64 (f 15))]
theorem ZJ (id : Int) (base list : List Int) (pred : Int) (f : Nat → Int) : B4 Tryz.prog 162 [.d (View.d ⟨id,base,list,pred,f⟩)] [] (.fn (.func 240) [] [.ptr 0 0 20]) [.c [.d (.i .i64 id),.d (.is base),.d (.is list),.d (.i .i64 pred),.d (.i .i64 (f 0)),.d (.i .i64 (f 1)),.d (.i .i64 (f 2)),.d (.i .i64 (f 3)),.d (.i .i64 (f 4)),.d (.i .i64 (f 5)),.d (.i .i64 (f 6)),.d (.i .i64 (f 7)),.d (.i .i64 (f 8)),.d (.i .i64 (f 9)),.d (.i .i64 (f 10)),.d (.i .i64 (f 11)),.d (.i .i64 (f 12)),.d (.i .i64 (f 13)),.d (.i .i64 (f 14)),.d (.i .i64 (f 15))]]:=by
 refine zD A6 Tryz.func162 ?_;refine wk [0,1,2] [] A0 A0 ?_;exact ⟨_,(A1.ck rfl),Nat.zero_le _,_,_,rfl,rfl,rfl,rfl⟩
theorem SF (v : View) (hb : v.base.length ≤ 9223372036854775807) (hl : v.list.length ≤ 9223372036854775807) : Go.Gar.Fn Tryz.prog 93 [v.d] (.b (Ck v)):=by
 obtain ⟨id,base,list,pred,f⟩:=v;replace hb : base.length ≤ 9223372036854775807:=hb;replace hl : list.length ≤ 9223372036854775807:=hl;have c1:=F1 id;have c2:=MZ base hb;have c3:=RG id list hl;have c4:=F1;have hR : Ck ⟨id,base,list,pred,f⟩ = (((Bc id && C9 base) && Bv id list) && (EO id pred && (GK f).all (EO id))):=rfl;refine zF A6 Tryz.func93 ?_
 cases h1 : Bc id with
 | false =>
  rw [h1] at c1 hR;have sc : No 3:=trivial;refine wk BK [] A0 (AG @c1) ?_;clear sc;refine ⟨_,_,rfl,rfl,?_⟩;simp [Ab,A9,A4,A3,hR]
 | true =>
 rw [h1] at c1 hR
 cases h2 : C9 base with
 | false =>
  rw [h2] at c2 hR;have sc : No 3:=trivial;refine wk BK [] A0 (BM @c1 @c2) ?_;clear sc;refine ⟨_,_,rfl,rfl,?_⟩;simp [Ab,A9,A4,A3,hR]
 | true =>
 rw [h2] at c2 hR
 cases h3 : Bv id list with
 | false =>
  rw [h3] at c3 hR;have sc : No 3:=trivial;refine wk BK [] A0 (EP @c1 @c2 @c3) ?_;clear sc;refine ⟨_,_,rfl,rfl,?_⟩;simp [Ab,A9,A4,A3,hR]
 | true =>
 rw [h3] at c3 hR;simp only [Bool.and_self,Bool.true_and] at hR;have d1:=Ds.mk [] (ZJ id base list pred f);have sc : No 3:=trivial;refine wk BK [] A0 (EP @c1 @c2 @c3) ?_;clear sc d1
 refine zG (K:=fun r _ H' => ((EO id pred && (GK f).all (EO id)) = true ∧ H' = [.c (vC id base list pred f),.c (vC id base list pred f),.lp r]) ∨
  ((EO id pred && (GK f).all (EO id)) = false ∧ H' = [.c (vC id base list pred f),.c (vC id base list pred f),.lp (r.left (.goto 0))])) ?_ ?_
 ·intro r hr
  have hT : ∀ n,EO id n = true → YT Tryz.prog 2 [.d (.i .i64 n)] [.c (vC id base list pred f),.c (vC id base list pred f),.lp r] fun x K => x = .d (.b true) ∧ K = [.c (vC id base list pred f),.c (vC id base list pred f),.lp r]:=by
   intro n hn;have d1:=F1 n;unfold vC;refine BG hr rfl rfl rfl ?_
   by_cases h5 : n = -1
   ·have f1:=C7 h5;have sc : No 3:=trivial;refine wk BK [] A0 A0 ?_;clear sc;refine zR ?_;have sc : No 3:=trivial;refine wk BK [] (AG f1) A0 ?_;clear sc;exact ⟨_,A1.refl _,Nat.le_refl _,rfl,rfl,rfl⟩
   ·have f1:=C2 h5;simp only [EO,h5,decide_false,Bool.false_or,Bool.and_eq_true,decide_eq_true_eq] at hn;rw [hn.1] at d1;have f2:=eq_false' hn.2;have sc : No 3:=trivial;refine wk BK [] A0 A0 ?_;clear sc;refine zR ?_;have sc : No 3:=trivial;refine wk BK [] (BM f1 f2) (AG @d1) ?_;clear sc;exact ⟨_,A1.refl _,Nat.le_refl _,rfl,rfl,rfl⟩
  have hF : ∀ n,EO id n = false → YT Tryz.prog 2 [.d (.i .i64 n)] [.c (vC id base list pred f),.c (vC id base list pred f),.lp r] fun x K => x = .d (.b false) ∧ K = [.c (vC id base list pred f),.c (vC id base list pred f),.lp (r.left (.goto 0))]:=by
   intro n hn;have d1:=F1 n;unfold vC;refine BG hr rfl rfl rfl ?_;have h5 : n ≠ -1:=fun h => by subst h;simp [EO] at hn
   have f1:=C2 h5;simp only [EO,h5,decide_false,Bool.false_or,Bool.and_eq_false_iff,decide_eq_false_iff_not,ne_eq,Classical.not_not] at hn
   cases hp : Bc n with
   | false =>
    rw [hp] at d1;have sc : No 3:=trivial;refine wk BK [] A0 A0 ?_;clear sc;refine zR ?_;have sc : No 3:=trivial;refine wk BK [] (AG f1) (AG @d1) ?_;clear sc;exact ⟨_,A1.refl _,Nat.le_refl _,rfl,rfl,rfl⟩
   | true =>
    rw [hp] at d1 hn;have f2:=B3 (hn.resolve_left (fun h => by cases h));have sc : No 3:=trivial;refine wk BK [] A0 A0 ?_;clear sc;refine zR ?_;have sc : No 3:=trivial;refine wk BK [] (BM f1 f2) (AG @d1) ?_;clear sc;exact ⟨_,A1.refl _,Nat.le_refl _,rfl,rfl,rfl⟩
  refine zT A6 Tryz.func240 ?_;unfold vC at *;have g1T:=@hT;have g1F:=@hF;have un : No 17:=trivial;refine wk [0,1,4,9,11,12,13,18] [] A0 A0 ?_;clear un g1F g1T;with_reducible repeat' first|constructor|intro hc;try simp only[AB] at hc
  all_goals first
   | exact ⟨_,A1.refl _,Nat.le_refl _,_,_,rfl,rfl,.inl ⟨by rw [f_all];simp only [*,Bool.and_self],rfl⟩⟩
   | exact ⟨_,A1.refl _,Nat.le_refl _,_,_,rfl,rfl,.inr ⟨by rw [f_all];simp only [*,Bool.and_false,Bool.false_and,Bool.and_true,Bool.true_and],rfl⟩⟩
 ·rintro r hr y H' (⟨h,rfl⟩ | ⟨h,rfl⟩)
  ·refine .inl ⟨rfl,?_⟩;rw [h] at hR;unfold vC;have sc : No 3:=trivial;refine wk BK [] A0 A0 ?_;clear sc;refine ⟨_,_,rfl,rfl,?_⟩;simp [Ab,A9,A4,A3,hR]
  ·refine .inr ⟨.goto 0,rfl,?_⟩;rw [h] at hR;unfold vC;have sc : No 3:=trivial;refine wk BK [] A0 A0 ?_;clear sc;refine ⟨_,_,rfl,rfl,?_⟩;simp [Ab,A9,A4,A3,hR]
end Go.Proofs.YtkljbfejbakooaaGreatDoor
