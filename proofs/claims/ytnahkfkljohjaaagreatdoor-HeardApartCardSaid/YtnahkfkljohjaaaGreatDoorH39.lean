/- Part 39 of the texts of this proof, put together by a program and made short.
Conditions: none; what each theorem asks stands in its own hypotheses. -/
import Derived.Test.YtnahkfkljohjaaaGreatDoorH24
import Derived.Sort.Walk0
import Derived.KernelRfl
import Derived.RangeFuncIn
import Derived.OpenShut
import Derived.ProofKit
import Derived.CallsIn
import Derived.RangeFuncLeaves
import Derived.OrdersIn
import Derived.TacticsIn
import Derived.ChangeKeysEq
import Derived.Laws.AppendOwn
import Derived.Laws.OwnMore
import Derived.Laws.MakeOwn
import Derived.Laws.Rows
import Derived.Laws.Cells
import Derived.Laws.Tables
import Derived.Laws.CopyRow
import Derived.Laws.Strings
import Derived.Laws.IdiomStrings
import Derived.Laws.BytesArg
import Derived.Sort.Grow
import Derived.Laws.Cover3
import Derived.RecoverIn
import Derived.Test.YtnahkfkljohjaaaGreatDoorProg
set_option linter.unusedSimpArgs false
set_option linter.unusedVariables false
set_option linter.unnecessarySimpa false
set_option maxHeartbeats 40000000
namespace Go.Proofs.YtnahkfkljohjaaaGreatDoor
namespace Nd
open Go.Gar
open Wi (A8 B0 Ak AX B8)
set_option maxRecDepth 4000
abbrev Ck : List Nat:=[0,1,2,3,6,7,8,18,24,25,47]
abbrev K5 : List Nat:=[0,1,4,5,6,7,8,14]
def FB (x : Int) (o : List Int) (p : Int) : Bool:=decide (o.length ≥ 3) || (!Ag p || decide (AU x p ≤ AU x (o.getD (o.length - 1) 0)))
def Ig (x : Int) : List Int → List Int → List Int
 | o,[] => o
 | o,p :: r => if FB x o p then o else Ig x (o ++ [p]) r
theorem TS (o : List Int) (p : Int) : (o ++ [p]).getD ((o ++ [p]).length - 1) 0 = p:=by
 rw [List.length_append,List.length_singleton,Nat.add_sub_cancel,List.getD_eq_getElem?_getD,List.getElem?_append_right (Nat.le_refl _),Nat.sub_self];rfl
theorem Ui (x : Int) : ∀ (l o : List Int),o.length ≤ 3 → Ig x o l = o ++ E5.makR x (o.getD (o.length - 1) 0) l (3 - o.length)
 | [],o,_ => by unfold Ig E5.makR;simp
 | p :: r,o,h => by
  unfold Ig FB
  rcases Nat.lt_or_ge o.length 3 with h3 | h3
  ·obtain ⟨k,hk⟩ : ∃ k,3 - o.length = k + 1:=⟨2 - o.length,by omega⟩
   rw [hk,decide_eq_false (by omega),Bool.false_or]
   unfold E5.makR
   cases hp : Ag p with
   | false => simp
   | true =>
    by_cases hf : AU x p > AU x (o.getD (o.length - 1) 0)
    ·have ih:=Ui x r (o ++ [p]) (by simp;omega)
     rw [TS] at ih
     rw [decide_eq_false (show ¬ AU x p ≤ AU x (o.getD (o.length - 1) 0) by omega),decide_eq_true hf]
     simp only [Bool.not_true,Bool.or_self,Bool.false_eq_true,if_false,Bool.and_self,if_true]
     rw [ih,List.append_assoc]
     have e : 3 - (o ++ [p]).length = k:=by rw [List.length_append,List.length_singleton];omega
     rw [e];rfl
    ·rw [decide_eq_true (show AU x p ≤ AU x (o.getD (o.length - 1) 0) by omega),decide_eq_false hf]
     simp
  ·have hk : 3 - o.length = 0:=by omega
   rw [hk,decide_eq_true h3]
   unfold E5.makR
   simp
theorem OC (x : Int) : ∀ (l o : List Int),o.length ≤ 3 → (Ig x o l).length ≤ 3
 | [],o,h => h
 | p :: r,o,h => by
  unfold Ig
  split
  ·exact h
  ·rename_i hs
   refine OC x r _ ?_
   unfold FB at hs
   simp only [Bool.or_eq_true,decide_eq_true_eq,not_or] at hs
   rw [List.length_append,List.length_singleton];omega
theorem Uu (x s : Int) (l : List Int) : E5 x s l = if Ag s && decide (s ≠ Ba x) then Ig x [s] l else []:=by
 unfold E5
 split
 ·rw [Ui x l [s] (Nat.le_of_ble_eq_true rfl)];rfl
 ·rfl
theorem W1 (x s : Int) (l : List Int) : (E5 x s l).length ≤ 3:=by
 rw [Uu];split
 ·exact OC x l [s] (Nat.le_of_ble_eq_true rfl)
 ·simp
theorem Zw {o : List Int} {k : Nat} (h : k < o.length) : (slc (.is o)).getD (k * 1) .np = .i .i64 (o.getD k 0):=by
 rw [Nat.mul_one]
 simp only [slc,List.getD_eq_getElem?_getD,List.getElem?_map,List.getElem?_eq_getElem h];rfl
abbrev aP (x : Int) (o l : List Int) (r : Lp) : List AC:=[.c [.d (.i .i64 (Ba x))],.c [.sl 2 o.length 1],.a (.is o),.c [.d (.is l)],.lp r]
theorem XN (x s : Int) (l : List Int) (hn : l.length ≤ 1048576) : Go.Gar.Fn Tryz.prog 101 [.i .i64 x,.i .i64 s,.is l] (.is (E5 x s l)):=by
 have c1:=Cw x
 have c2:=Iy s
 have c3:=KZ l
 have hT:=Uu x s l
 refine A0 AB Tryz.func101 rfl rfl (Nat.le_of_ble_eq_true rfl) ?_
 cases hs : Ag s with
 | false =>
  rw [hs] at c2 hT
  rw [hT]
  have sc : No 3:=trivial;refine wd Ck [] [] A1 (Ao @c1 @c2) ?_;clear sc;with_reducible repeat' first|constructor|intro hc;try simp only[A3] at hc
  refine ⟨_,_,rfl,rfl,?_⟩;simp [AE,A6,A5,A4]
 | true =>
 rw [hs] at c2 hT
 by_cases he : s = Ba x
 ·have f1:=AA he
  rw [hT,if_neg (by simp [he])]
  have sc : No 3:=trivial;refine wd Ck [] [] (AD f1) (Ao @c1 @c2) ?_;clear sc;with_reducible repeat' first|constructor|intro hc;try simp only[A3] at hc
  refine ⟨_,_,rfl,rfl,?_⟩;simp [AE,A6,A5,A4]
 have f1:=eq_false' he
 rw [if_pos (by simp [he])] at hT
 rw [hT]
 clear hT
 have ow : Lv [22]:=trivial;have d1:=Ds.mk [] (c3);have sc : No 3:=trivial;refine wd Ck [] [] (AD f1) (Ao @c1 @c2) ?_;clear sc d1 ow;with_reducible repeat' first|constructor|intro hc;try simp only[A3] at hc
 refine Aq (K:=fun r _ H' => H' = aP x (Ig x [s] l) l r ∨ H' = aP x (Ig x [s] l) l (r.left (.goto 0))) rfl (by first | (simp only [AL,AJ,Nat.reduceAdd,Int.reduceAdd,Int.reduceSub,Int.reduceMul,Int.reduceToNat];done) | (simp only [AL,AJ,Nat.reduceAdd,Int.reduceAdd,Int.reduceSub,Int.reduceMul,Int.reduceToNat];rfl) | rfl) (by first | (simp only [AL,AJ,Nat.reduceAdd,Int.reduceAdd,Int.reduceSub,Int.reduceMul,Int.reduceToNat];done) | (simp only [AL,AJ,Nat.reduceAdd,Int.reduceAdd,Int.reduceSub,Int.reduceMul,Int.reduceToNat];rfl) | rfl) (fun r => (by first | (simp only [AL,AJ,Nat.reduceAdd,Int.reduceAdd,Int.reduceSub,Int.reduceMul,Int.reduceToNat];done) | (simp only [AL,AJ,Nat.reduceAdd,Int.reduceAdd,Int.reduceSub,Int.reduceMul,Int.reduceToNat];rfl) | rfl)) ?_ ?_
 ·intro r hr
  have hk:=hr.ok (k:=4) rfl
  have hY : ∀ (o : List Int) (p : Int),o ≠ [] → o.length ≤ 3 → YT Tryz.prog 4 [.d (.i .i64 p)] (aP x o l r) fun v K => v = .d (.b !(FB x o p)) ∧ K = if FB x o p then aP x o l (r.left (.goto 0)) else aP x (o ++ [p]) l r:=by
   intro o p hne ho
   have hpos : 0 < o.length:=List.length_pos_iff.2 hne
   have hsl:=Zw (o:=o) (k:=o.length - 1) (by omega)
   have c4:=Iy p
   have c5:=FE (Ba x) p
   have c6:=FE (Ba x) (o.getD (o.length - 1) 0)
   rw [RB] at c5 c6
   rw [← hsl] at c6
   clear hsl
   have e1 : (o.length : Int) - 1 = ((o.length - 1 : Nat) : Int):=by omega
   have hS : FB x o p = (decide ((o.length : Int) ≥ 3) || (!Ag p || decide (AU x p ≤ AU x (o.getD (o.length - 1) 0)))):=by
    unfold FB
    by_cases h : o.length ≥ 3
    ·rw [decide_eq_true h,decide_eq_true (show (o.length : Int) ≥ 3 by omega)]
    ·rw [decide_eq_false h,decide_eq_false (show ¬ (o.length : Int) ≥ 3 by omega)]
   rw [hS]
   clear hS
   generalize AU x p = fp at *
   generalize AU x (o.getD (o.length - 1) 0) = fo at *
   unfold aP
   generalize Ba x = px at *
   by_cases h3 : (o.length : Int) ≥ 3
   ·have g1 : decide ((o.length : Int) ≥ 3) = true:=decide_eq_true h3
    rw [g1,Bool.true_or]
    simp only [Bool.not_true,if_true]
    refine Aj hr rfl rfl rfl ?_
    have sc : No 3:=trivial;refine wd Ck [] [] A1 A1 ?_;clear sc;with_reducible repeat' first|constructor|intro hc;try simp only[A3] at hc
    refine ⟨rfl,Bl (by first | (simp only [AL,AJ,Nat.reduceAdd,Int.reduceAdd,Int.reduceSub,Int.reduceMul,Int.reduceToNat];done) | (simp only [AL,AJ,Nat.reduceAdd,Int.reduceAdd,Int.reduceSub,Int.reduceMul,Int.reduceToNat];rfl) | rfl) ?_⟩
    have sc : No 3:=trivial;refine wd Ck [] [] (AD g1) A1 ?_;clear sc;with_reducible repeat' first|constructor|intro hc;try simp only[A3] at hc
    exact ⟨_,A2.refl _,Nat.le_refl _,rfl,rfl,rfl⟩
   have g1 : decide ((o.length : Int) ≥ 3) = false:=decide_eq_false h3
   rw [g1,Bool.false_or]
   cases hp : Ag p with
   | false =>
    rw [hp] at c4
    simp only [Bool.not_false,Bool.true_or,Bool.not_true,if_true]
    refine Aj hr rfl rfl rfl ?_
    have sc : No 3:=trivial;refine wd Ck [] [] A1 A1 ?_;clear sc;with_reducible repeat' first|constructor|intro hc;try simp only[A3] at hc
    refine ⟨rfl,Bl (by first | (simp only [AL,AJ,Nat.reduceAdd,Int.reduceAdd,Int.reduceSub,Int.reduceMul,Int.reduceToNat];done) | (simp only [AL,AJ,Nat.reduceAdd,Int.reduceAdd,Int.reduceSub,Int.reduceMul,Int.reduceToNat];rfl) | rfl) ?_⟩
    have sc : No 3:=trivial;refine wd Ck [] [] (AD g1) (AD @c4) ?_;clear sc;with_reducible repeat' first|constructor|intro hc;try simp only[A3] at hc
    exact ⟨_,A2.refl _,Nat.le_refl _,rfl,rfl,rfl⟩
   | true =>
    rw [hp] at c4
    by_cases hf : fp ≤ fo
    ·have g2 : decide (fp ≤ fo) = true:=decide_eq_true hf
     rw [g2]
     simp only [Bool.not_true,Bool.or_true,if_true]
     refine Aj hr rfl rfl rfl ?_
     have sc : No 3:=trivial;refine wd Ck [] [] A1 A1 ?_;clear sc;with_reducible repeat' first|constructor|intro hc;try simp only[A3] at hc
     refine ⟨rfl,Bl (by first | (simp only [AL,AJ,Nat.reduceAdd,Int.reduceAdd,Int.reduceSub,Int.reduceMul,Int.reduceToNat];done) | (simp only [AL,AJ,Nat.reduceAdd,Int.reduceAdd,Int.reduceSub,Int.reduceMul,Int.reduceToNat];rfl) | rfl) ?_⟩
     have sc : No 3:=trivial;refine wd Ck [] [] (Bo g1 e1 g2) (Bo @c4 @c5 @c6) ?_;clear sc;with_reducible repeat' first|constructor|intro hc;try simp only[A3] at hc
     exact ⟨_,A2.refl _,Nat.le_refl _,rfl,rfl,rfl⟩
    ·have g2 : decide (fp ≤ fo) = false:=decide_eq_false hf
     rw [g2]
     simp only [Bool.not_true,Bool.or_self,Bool.not_false,Bool.false_eq_true,if_false]
     refine Aj hr rfl rfl rfl ?_
     have sc : No 3:=trivial;refine wd Ck [] [] A1 A1 ?_;clear sc;with_reducible repeat' first|constructor|intro hc;try simp only[A3] at hc
     refine ⟨rfl,Bl (by first | (simp only [AL,AJ,Nat.reduceAdd,Int.reduceAdd,Int.reduceSub,Int.reduceMul,Int.reduceToNat];done) | (simp only [AL,AJ,Nat.reduceAdd,Int.reduceAdd,Int.reduceSub,Int.reduceMul,Int.reduceToNat];rfl) | rfl) ?_⟩
     have sc : No 3:=trivial;refine wd Ck [] [] (Bo g1 e1 g2) (Bo @c4 @c5 @c6) ?_;clear sc;with_reducible repeat' first|constructor|intro hc;try simp only[A3] at hc
     refine ⟨_,A2.refl _,Nat.le_refl _,rfl,rfl,?_⟩
     simp only [List.length_append,List.length_cons,List.length_nil,List.set_cons_succ,List.set_cons_zero]
  have hdone : ∀ (o : List Int) (p : Int) (q : List Int),Ig x o (p :: q) = if FB x o p then o else Ig x (o ++ [p]) q:=fun _ _ _ => rfl
  refine Ap AB Tryz.func200 rfl rfl (Nat.le_of_ble_eq_true rfl) ?_
  generalize hM : Ig x [s] l = M at *
  refine wk K5 [] A1 A1 ?_;with_reducible repeat' first|constructor|intro hc;try simp only[A3] at hc
  refine C6 (fun j : Nat => j ≤ l.length ∧ (j ≤ 2) ∧ Ig x (s :: l.take j) (l.drop j) = M) (fun j : Nat => [(7,.d (.i .i64 j))]) (fun j => [(1,.c [.sl 2 (s :: l.take j).length 1]),(2,.a (.is (s :: l.take j)))]) (fun j => l.length - j) 0 ⟨Nat.zero_le _,Nat.zero_le _,hM⟩ (fun _ => rfl) (fun _ => rfl) ?_ ?_
  ·exact A2.ck rfl
  rintro j ⟨hj,hj2,hpre⟩
  have htl : (l.take j).length = j:=by rw [List.length_take];omega
  by_cases hjl : j < l.length
  ·obtain ⟨p,hq⟩:=AR hjl
   have gq:=Bv hq
   have hd : l.drop j = p :: l.drop (j + 1):=by
    rw [List.drop_eq_getElem_cons hjl]
    rw [List.getElem?_eq_getElem hjl] at hq
    cases hq;rfl
   have hn : s :: l.take j ++ [p] = s :: l.take (j + 1):=by rw [AT hq];rfl
   rw [hd,hdone] at hpre
   have hy:=hY (s :: l.take j) p (by simp) (by simp [htl];omega)
   cases hst : FB x (s :: l.take j) p with
   | true =>
    rw [hst] at hy hpre
    simp only [Bool.not_true,if_true] at hy hpre
    subst hpre
    have q1:=@hy;refine wk K5 [] (AD gq) A1 ?_;clear q1;with_reducible repeat' first|constructor|intro hc;try simp only[A3] at hc
    exact ⟨_,A2.refl _,Nat.le_refl _,_,_,rfl,rfl,.inr rfl⟩
   | false =>
    rw [hst] at hy hpre
    simp only [Bool.not_false,Bool.false_eq_true,if_false] at hy hpre
    have hj3 : j + 1 ≤ 2:=by
     unfold FB at hst
     simp only [Bool.or_eq_false_iff,decide_eq_false_iff_not] at hst
     have:=hst.1
     rw [List.length_cons,htl] at this
     omega
    rw [hn] at hy hpre
    have q1:=@hy;refine wk K5 [] (AD gq) A1 ?_;clear q1;with_reducible repeat' first|constructor|intro hc;try simp only[A3] at hc
    refine ⟨j + 1,⟨hjl,hj3,hpre⟩,by omega,Nat.le_refl _,?_⟩
    exact A2.ck rfl
  ·have e : j = l.length:=by omega
   subst e
   rw [List.take_length,List.drop_length] at hpre
   rw [List.take_length]
   have hpre : s :: l = M:=hpre
   subst hpre
   refine wk K5 [] A1 A1 ?_;with_reducible repeat' first|constructor|intro hc;try simp only[A3] at hc
   exact ⟨_,A2.refl _,Nat.le_refl _,_,_,rfl,rfl,.inl rfl⟩
 ·generalize Ig x [s] l = M at *
  rintro r hr v H' (rfl | rfl)
  ·refine .inl ⟨rfl,?_⟩
   have sc : No 3:=trivial;refine wd Ck [] [] A1 A1 ?_;clear sc;with_reducible repeat' first|constructor|intro hc;try simp only[A3] at hc
   refine ⟨_,_,rfl,rfl,?_⟩;simp [AE,A6,A5,A4]
  ·refine .inr ⟨.goto 0,rfl,?_⟩
   have sc : No 3:=trivial;refine wd Ck [] [] A1 A1 ?_;clear sc;with_reducible repeat' first|constructor|intro hc;try simp only[A3] at hc
   refine ⟨_,_,rfl,rfl,?_⟩;simp [AE,A6,A5,A4]
end Nd
end Go.Proofs.YtnahkfkljohjaaaGreatDoor
