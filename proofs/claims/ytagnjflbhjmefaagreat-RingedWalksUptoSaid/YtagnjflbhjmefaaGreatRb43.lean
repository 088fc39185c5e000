/- Part 43 of the texts of this proof, put together by a program and made short.
Conditions: none; what each theorem asks stands in its own hypotheses. -/
import Derived.Test.YtagnjflbhjmefaaGreatRb17
import Derived.Ground.NamesProg
import Derived.Shelf.Slices.In.SortAlone
import Derived.Shelf.Slices.In.SortNone
import Derived.Sort.Walk0
import Derived.KernelRfl
import Derived.RangeFuncIn
import Derived.Sort.Grow
import Derived.Laws.Cover3
import Derived.RecoverIn
import Derived.ProofKit
import Derived.OpenShut
import Derived.CallsIn
import Derived.RangeFuncLeaves
import Derived.OrdersIn
import Derived.TacticsIn
import Derived.ChangeKeysEq
import Derived.Laws.AppendOwn
import Derived.Laws.OwnMore
import Derived.Laws.MakeOwn
import Derived.Laws.Rows
import Derived.Laws.Cells
import Derived.Laws.Tables
import Derived.Laws.CopyRow
import Derived.Laws.Strings
import Derived.Laws.IdiomStrings
import Derived.Laws.BytesArg
import Derived.Test.YtagnjflbhjmefaaGreatProg
set_option linter.unusedSimpArgs false
set_option linter.unusedVariables false
set_option linter.unnecessarySimpa false
set_option maxHeartbeats 40000000
namespace Go.Proofs.YtagnjflbhjmefaaGreat
namespace Nd
open Go.Gar
open Wi (AE Az B7)
set_option maxRecDepth 4000
theorem Tm (a x b : Int) : Go.Gar.Fn Tryz.prog 77 [.i .i64 a,.i .i64 x,.i .i64 b] (.b (Cp a x b)):=by
 have c1:=IV a x
 have c2:=IV a b
 refine A3 A8 Tryz.func77 rfl rfl (Nat.le_of_ble_eq_true rfl) ?_
 have h1 : AK a b = 0 ↔ Bm a = Bm b:=by unfold AK Bm;omega
 have h2 : AK a x > 0 ↔ Bm x ≠ Bm a:=by unfold AK Bm;omega
 have hT : Cp a x b = if AK a b = 0 then decide (AK a x > 0) else decide (AK a x > 0 ∧ AK a x < AK a b):=by
  unfold Cp
  by_cases h : AK a b = 0
  ·rw [if_pos h,if_pos (h1.1 h)]
   by_cases h3 : AK a x > 0
   ·rw [decide_eq_true h3,decide_eq_true (h2.1 h3)]
   ·rw [decide_eq_false h3,decide_eq_false (fun h4 => h3 (h2.2 h4))]
  ·rw [if_neg h,if_neg (fun h4 => h (h1.2 h4))]
 generalize Cp a x b = R at *
 clear h1 h2
 generalize AK a x = u at *
 generalize AK a b = w at *
 have nS:=True.intro;obtain ⟨lv,st,ns,nc⟩:=wq [0,1,2,6,7,8,16] [];have c1:=@c1;have c2:=@c2;refine wk ?_;clear nc ns st lv c2 c1;repeat' (first|with_reducible constructor|(with_reducible intro hc;try simp only[A1] at hc))
 all_goals (clear c1 c2;refine ⟨_,_,rfl,rfl,?_⟩;simp only [Ao];refine congrArg D.b ?_;rw [hT];clear hT;grind)
theorem Y3 (x : Int) (l base : List Int) : Es (Bm x) l base = Es x l base:=by
 cases l with
 | nil => rfl
 | cons b r =>
  show (base.any (fun p => Cp (Bm x) p b) || Es b r base) = (base.any (fun p => Cp x p b) || Es b r base)
  have : ∀ p,Cp (Bm x) p b = Cp x p b:=fun p => by
   have e : Bm (Bm x) = Bm x:=by unfold Bm;omega
   have e2 : ∀ y,AK (Bm x) y = AK x y:=fun y => QB x y
   unfold Cp;rw [e,e2,e2]
  simp only [this]
theorem TX (x : Int) (l base : List Int) (hn : l.length ≤ 9223372036854775807) (hm : base.length ≤ 9223372036854775807) : Go.Gar.Fn Tryz.prog 38 [.i .i64 x,.is l,.is base] (.b (Es x l base)):=by
 have cx:=G9 x
 rw [← Y3]
 generalize Bm x = x0 at *
 refine A3 A8 Tryz.func38 rfl rfl (Nat.le_of_ble_eq_true rfl) ?_
 have nS:=True.intro;obtain ⟨lv,st,ns,nc⟩:=wq [0,1,2,5,6,7,8,10,14,15,16,17,18,19,20,26] [];have c1:=@cx;have d1:=Ds.mk [] (Fv x0 l);have sc : No 3:=trivial;refine wk ?_;clear nc ns st lv sc d1 c1;repeat' (first|with_reducible constructor|(with_reducible intro hc;try simp only[A1] at hc))
 refine Bn (K:=fun r _ H' => (Es x0 l base = false ∧ H' = [.c [.d (.is base)],.c [.d (.i .i64 x0)],.c [.d (.is l)],.lp r]) ∨
  (Es x0 l base = true ∧ H' = [.c [.d (.is base)],.c [.d (.i .i64 x0)],.c [.d (.is l)],.lp (r.left (.goto 0))])) rfl (by first | (simp only [Ai,Ae,Nat.reduceAdd,Int.reduceAdd,Int.reduceSub,Int.reduceMul,Int.reduceToNat];done) | (simp only [Ai,Ae,Nat.reduceAdd,Int.reduceAdd,Int.reduceSub,Int.reduceMul,Int.reduceToNat];rfl) | rfl) (by first | (simp only [Ai,Ae,Nat.reduceAdd,Int.reduceAdd,Int.reduceSub,Int.reduceMul,Int.reduceToNat];done) | (simp only [Ai,Ae,Nat.reduceAdd,Int.reduceAdd,Int.reduceSub,Int.reduceMul,Int.reduceToNat];rfl) | rfl) (fun r => (by first | (simp only [Ai,Ae,Nat.reduceAdd,Int.reduceAdd,Int.reduceSub,Int.reduceMul,Int.reduceToNat];done) | (simp only [Ai,Ae,Nat.reduceAdd,Int.reduceAdd,Int.reduceSub,Int.reduceMul,Int.reduceToNat];rfl) | rfl)) ?_ ?_
 ·intro r hr
  refine BP A8 Tryz.func128 rfl rfl (Nat.le_of_ble_eq_true rfl) ?_
  have nS:=True.intro;obtain ⟨lv,st,ns,nc⟩:=wq [0,1,2,4,6,8,9,10,11,18] [];refine wk ?_;clear nc ns st lv;repeat' (first|with_reducible constructor|(with_reducible intro hc;try simp only[A1] at hc))
  have hk:=hr.ok (k:=3) rfl
  refine AS (fun k => k ≤ l.length ∧ Es x0 l base = Es (ahead x0 l k) (l.drop k) base) (fun k : Nat => [(4,.d (.i .i64 (ahead x0 l k))),(10,.d (.i .i64 k))]) (fun k => l.length - k) 0 ⟨Nat.zero_le _,rfl⟩ (fun _ => rfl) ?_ ?_
  ·exact A0.cut rfl (by repeat' (first | exact True.intro | refine And.intro (by (first | rfl | ((with_reducible_and_instances refine congrArg (fun z => some (AV.d (D.i _ z))) ?_);omega) | (refine congrArg (fun z => some (AV.d (D.i _ z))) (?_ : (_ : Int) = _);omega) | (refine congrArg some ?_;simp only [ahead];done) | (refine congrArg some ?_;simp [ahead];done))) ?_)) (by repeat' (first | exact True.intro | refine And.intro (Or.inr rfl) ?_ | refine And.intro (Or.inl ⟨rfl,rfl⟩) ?_ | refine And.intro (Or.inr (by simp only [ahead])) ?_ | refine And.intro (Or.inr (by simp [ahead])) ?_)) (by first | rfl | (simp (decide:=true) [AT,A7.ok,AV.oks,AV.ok,hk];done)) rfl
  rintro k ⟨hkk,hS⟩
  by_cases hkl : k < l.length
  ·obtain ⟨p,hp⟩:=AG hkl
   have gp:=AY hp
   have hd : l.drop k = p :: l.drop (k + 1):=by
    rw [List.drop_eq_getElem_cons hkl]
    rw [List.getElem?_eq_getElem hkl] at hp
    cases hp;rfl
   have hN : ahead x0 l (k + 1) = p:=gp
   rw [hd] at hS
   generalize hat : ahead x0 l k = a at *
   have hS2 : Es x0 l base = (base.any (fun q => Cp a q p) || Es p (l.drop (k + 1)) base):=hS
   cases hb : base.any (fun q => Cp a q p) with
   | true =>
    have hY : YT Tryz.prog 3 [.d (.i .i64 a),.d (.i .i64 p)] [.c [.d (.is base)],.c [.d (.i .i64 x0)],.c [.d (.is l)],.lp r] fun v K => v = .d (.b false) ∧ K = [.c [.d (.is base)],.c [.d (.i .i64 x0)],.c [.d (.is l)],.lp (r.left (.goto 0))]:=by
     refine B0 hr rfl rfl rfl ?_
     have nS:=True.intro;obtain ⟨lv,st,ns,nc⟩:=wq [0,1,2,5,6,7,8,10,14,15,16,17,18,19,20,26] [];have sc : No 3:=trivial;refine wk ?_;clear nc ns st lv sc;repeat' (first|with_reducible constructor|(with_reducible intro hc;try simp only[A1] at hc))
     refine ⟨rfl,CB (by first | (simp only [Ai,Ae,Nat.reduceAdd,Int.reduceAdd,Int.reduceSub,Int.reduceMul,Int.reduceToNat];done) | (simp only [Ai,Ae,Nat.reduceAdd,Int.reduceAdd,Int.reduceSub,Int.reduceMul,Int.reduceToNat];rfl) | rfl) ?_⟩
     have nS:=True.intro;obtain ⟨lv,st,ns,nc⟩:=wq [0,1,2,5,6,7,8,10,14,15,16,17,18,19,20,26] [];have sc : No 3:=trivial;refine wk ?_;clear nc ns st lv sc;repeat' (first|with_reducible constructor|(with_reducible intro hc;try simp only[A1] at hc))
     refine AS (fun j => j ≤ base.length ∧ ∀ b ∈ base.take j,Cp a b p = false) (fun j : Nat => [(19,.d (.i .i64 j))]) (fun j => base.length - j) 0 ⟨Nat.zero_le _,fun _ h => by cases h⟩ (fun _ => rfl) ?_ ?_
     ·exact A0.ck rfl
     rintro j ⟨hj,hpre⟩
     by_cases hjl : j < base.length
     ·obtain ⟨b,hbj⟩:=AG hjl
      have gb:=AY hbj
      have c1:=Tm a b p
      cases hI : Cp a b p with
      | true =>
       rw [hI] at c1
       have nS:=gb;obtain ⟨lv,st,ns,nc⟩:=wq [0,1,2,5,6,7,8,10,14,15,16,17,18,19,20,26] [];have c1:=@c1;have sc : No 3:=trivial;refine wk ?_;clear nc ns st lv sc c1;repeat' (first|with_reducible constructor|(with_reducible intro hc;try simp only[A1] at hc))
       exact ⟨⟨[],[.c [.d (.is base)],.c [.d (.i .i64 x0)],.c [.d (.is l)],.lp r.busy],_⟩,(A0.ck rfl),Nat.le_refl _,rfl,rfl,rfl⟩
      | false =>
       rw [hI] at c1
       have hpre':=LR (g:=fun b => Cp a b p) hbj hI hpre
       have nS:=gb;obtain ⟨lv,st,ns,nc⟩:=wq [0,1,2,5,6,7,8,10,14,15,16,17,18,19,20,26] [];have c1:=@c1;have sc : No 3:=trivial;refine wk ?_;clear nc ns st lv sc c1;repeat' (first|with_reducible constructor|(with_reducible intro hc;try simp only[A1] at hc))
       refine ⟨j + 1,⟨hjl,hpre'⟩,by omega,Nat.le_refl _,?_⟩
       exact A0.ck rfl
     ·exfalso
      have e : j = base.length:=by omega
      subst e
      rw [List.take_length] at hpre
      obtain ⟨b,hb1,hb2⟩:=List.any_eq_true.1 hb
      rw [hpre b hb1] at hb2;cases hb2
    have nS:=gp;obtain ⟨lv,st,ns,nc⟩:=wq [0,1,2,4,6,8,9,10,11,18] [];have q1:=@hY;refine wk ?_;clear nc ns st lv q1;repeat' (first|with_reducible constructor|(with_reducible intro hc;try simp only[A1] at hc))
    exact ⟨⟨[],[.c [.d (.is base)],.c [.d (.i .i64 x0)],.c [.d (.is l)],.lp (r.left (.goto 0))],_⟩,(A0.ck rfl),Nat.le_refl _,_,_,rfl,rfl,.inr ⟨by rw [hS2,hb];rfl,rfl⟩⟩
   | false =>
    have hY : YT Tryz.prog 3 [.d (.i .i64 a),.d (.i .i64 p)] [.c [.d (.is base)],.c [.d (.i .i64 x0)],.c [.d (.is l)],.lp r] fun v K => v = .d (.b true) ∧ K = [.c [.d (.is base)],.c [.d (.i .i64 x0)],.c [.d (.is l)],.lp r]:=by
     refine B0 hr rfl rfl rfl ?_
     have nS:=True.intro;obtain ⟨lv,st,ns,nc⟩:=wq [0,1,2,5,6,7,8,10,14,15,16,17,18,19,20,26] [];have sc : No 3:=trivial;refine wk ?_;clear nc ns st lv sc;repeat' (first|with_reducible constructor|(with_reducible intro hc;try simp only[A1] at hc))
     refine ⟨rfl,CB (by first | (simp only [Ai,Ae,Nat.reduceAdd,Int.reduceAdd,Int.reduceSub,Int.reduceMul,Int.reduceToNat];done) | (simp only [Ai,Ae,Nat.reduceAdd,Int.reduceAdd,Int.reduceSub,Int.reduceMul,Int.reduceToNat];rfl) | rfl) ?_⟩
     have nS:=True.intro;obtain ⟨lv,st,ns,nc⟩:=wq [0,1,2,5,6,7,8,10,14,15,16,17,18,19,20,26] [];have sc : No 3:=trivial;refine wk ?_;clear nc ns st lv sc;repeat' (first|with_reducible constructor|(with_reducible intro hc;try simp only[A1] at hc))
     refine AS (fun j => j ≤ base.length) (fun j : Nat => [(19,.d (.i .i64 j))]) (fun j => base.length - j) 0 (Nat.zero_le _) (fun _ => rfl) ?_ ?_
     ·exact A0.ck rfl
     intro j hj
     by_cases hjl : j < base.length
     ·obtain ⟨b,hbj⟩:=AG hjl
      have gb:=AY hbj
      have c1:=Tm a b p
      have hI : Cp a b p = false:=by
       have:=List.any_eq_false.1 hb b (List.mem_of_getElem? hbj)
       simpa using this
      rw [hI] at c1
      have nS:=gb;obtain ⟨lv,st,ns,nc⟩:=wq [0,1,2,5,6,7,8,10,14,15,16,17,18,19,20,26] [];have c1:=@c1;have sc : No 3:=trivial;refine wk ?_;clear nc ns st lv sc c1;repeat' (first|with_reducible constructor|(with_reducible intro hc;try simp only[A1] at hc))
      refine ⟨j + 1,by omega,by omega,Nat.le_refl _,?_⟩
      exact A0.ck rfl
     ·have e : j = base.length:=by omega
      subst e
      have nS:=True.intro;obtain ⟨lv,st,ns,nc⟩:=wq [0,1,2,5,6,7,8,10,14,15,16,17,18,19,20,26] [];have sc : No 3:=trivial;refine wk ?_;clear nc ns st lv sc;repeat' (first|with_reducible constructor|(with_reducible intro hc;try simp only[A1] at hc))
      exact ⟨⟨[],[.c [.d (.is base)],.c [.d (.i .i64 x0)],.c [.d (.is l)],.lp r.busy],_⟩,(A0.ck rfl),Nat.le_refl _,rfl,rfl,rfl⟩
    have nS:=gp;obtain ⟨lv,st,ns,nc⟩:=wq [0,1,2,4,6,8,9,10,11,18] [];have q1:=@hY;refine wk ?_;clear nc ns st lv q1;repeat' (first|with_reducible constructor|(with_reducible intro hc;try simp only[A1] at hc))
    refine ⟨k + 1,⟨hkl,?_⟩,by omega,Nat.le_refl _,?_⟩
    ·rw [hS2,hb,hN];rfl
    ·exact A0.cut rfl (by repeat' (first | exact True.intro | refine And.intro (by (first | rfl | ((with_reducible_and_instances refine congrArg (fun z => some (AV.d (D.i _ z))) ?_);omega) | (refine congrArg (fun z => some (AV.d (D.i _ z))) (?_ : (_ : Int) = _);omega) | (refine congrArg some ?_;simp only [hN];done) | (refine congrArg some ?_;simp [hN];done))) ?_)) (by repeat' (first | exact True.intro | refine And.intro (Or.inr rfl) ?_ | refine And.intro (Or.inl ⟨rfl,rfl⟩) ?_ | refine And.intro (Or.inr (by simp only [hN])) ?_ | refine And.intro (Or.inr (by simp [hN])) ?_)) (by first | rfl | (simp (decide:=true) [AT,A7.ok,AV.oks,AV.ok,hk];done)) rfl
  ·have e : k = l.length:=by omega
   subst e
   rw [List.drop_length] at hS
   replace hS : Es x0 l base = false:=hS
   have nS:=True.intro;obtain ⟨lv,st,ns,nc⟩:=wq [0,1,2,4,6,8,9,10,11,18] [];refine wk ?_;clear nc ns st lv;repeat' (first|with_reducible constructor|(with_reducible intro hc;try simp only[A1] at hc))
   exact ⟨⟨[],[.c [.d (.is base)],.c [.d (.i .i64 x0)],.c [.d (.is l)],.lp r],_⟩,(A0.ck rfl),Nat.le_refl _,_,_,rfl,rfl,.inl ⟨hS,rfl⟩⟩
 ·rintro r hr y H' (⟨h,rfl⟩ | ⟨h,rfl⟩)
  ·refine .inl ⟨rfl,?_⟩
   rw [h]
   have nS:=True.intro;obtain ⟨lv,st,ns,nc⟩:=wq [0,1,2,5,6,7,8,10,14,15,16,17,18,19,20,26] [];have sc : No 3:=trivial;refine wk ?_;clear nc ns st lv sc;repeat' (first|with_reducible constructor|(with_reducible intro hc;try simp only[A1] at hc))
   refine ⟨_,_,rfl,rfl,?_⟩;simp [AH,A6,A5,A4]
  ·refine .inr ⟨.goto 0,rfl,?_⟩
   rw [h]
   have nS:=True.intro;obtain ⟨lv,st,ns,nc⟩:=wq [0,1,2,5,6,7,8,10,14,15,16,17,18,19,20,26] [];have sc : No 3:=trivial;refine wk ?_;clear nc ns st lv sc;repeat' (first|with_reducible constructor|(with_reducible intro hc;try simp only[A1] at hc))
   refine ⟨_,_,rfl,rfl,?_⟩;simp [AH,A6,A5,A4]
end Nd
end Go.Proofs.YtagnjflbhjmefaaGreat
