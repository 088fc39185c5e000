/- Part 51 of a proof, put together by a program. Conditions: none beyond those that a theorem states. -/
import Derived.Test.YtkljbfejbakooaaGreatDoorN45
import Derived.Test.YtkljbfejbakooaaGreatDoorN46
import Derived.Test.YtkljbfejbakooaaGreatDoorN50
set_option linter.unusedSimpArgs false
set_option linter.unusedVariables false
set_option linter.unnecessarySimpa false
set_option maxHeartbeats 40000000
namespace Go.Proofs.YtkljbfejbakooaaGreatDoor
namespace Nd
open Go.Gar
open Wi (A8 B7 AU AC B2 mC Bn Bl)
set_option maxRecDepth 100000
abbrev Hl : List Nat:=[0,1,2,3,5,6,7,8,9,10,11,12,13,14,15,28,87,116,129,133,169]
theorem au (k : List UInt8) : AU ⟨k,0,0,false⟩ = B2 k:=by
 unfold Wi.AU;rw [show Wi.isVal 0 = true from by decide,Bool.and_true,Bool.and_true]
theorem OL (n : Node) (what : Int) (x : Item) (hw : R7 n) : Go.Gar.Fn Tryz.prog 7 [n.d,.i .u8 what,x.d] (.b true):=by
 have cw:=bl;obtain ⟨g,c1,hG⟩:=XO n
 cases g with
 | true =>
  clear hG;refine zF A6 Tryz.func7 ?_;unfold Node.d Node.cells View.cells Calls.cells Job.cells Item.d Item.cells at *;refine wd Hl [] [] A0 (Aj @c1 @cw) ?_;with_reducible repeat' first|constructor|intro hc;try simp only[AD] at hc
  exact zE
 | false =>
 have hg:=hG rfl;clear hG;have c2:=XW n (kZ hg hw)
 cases hr : B0 n with
 | false =>
  rw [hr] at c2;refine zF A6 Tryz.func7 ?_;unfold Node.d Node.cells View.cells Calls.cells Job.cells Item.d Item.cells at *;refine wd Hl [] [] A0 (Dl @c1 @c2 @cw) ?_;with_reducible repeat' first|constructor|intro hc;try simp only[AD] at hc
  exact zE
 | true =>
 rw [hr] at c2;have hN:=gbNb hg hw hr;clear hr hg hw
 by_cases h100 : x.key.length > 100
 ·have f1 : decide ((x.key.length : Int) > 100) = true:=decide_eq_true (by omega);refine zF A6 Tryz.func7 ?_;unfold Node.d Node.cells View.cells Calls.cells Job.cells Item.d Item.cells at *;refine wd Hl [] [] (AF f1) (Dl @c1 @c2 @cw) ?_;with_reducible repeat' first|constructor|intro hc;try simp only[AD] at hc
  exact zE
 have f1 : decide ((x.key.length : Int) > 100) = false:=decide_eq_false (by omega);have hx : x.key.length ≤ big:=Nat.le_trans (show x.key.length ≤ 100 by omega) (by decide);have c3:=gN n what x hN hx;have c4:=Wi.IY x;have c5:=Wi.IY ⟨x.key,0,0,false⟩;rw [au] at c5;have c6:=aB n hN;have c7:=UT n.view hN.br.id hN.br.li hN.br.vb hN.br.vl;obtain ⟨l1,l2⟩:=Ww hN
 have hmany : 0 ≤ n.calls.many ∧ n.calls.many ≤ 1048576:=by
  obtain ⟨⟨_,a,b,_⟩,_⟩:=CM.1 hN.cB.1;exact ⟨a,b⟩
 have hkn:=hN.br.kn;have h16:=(gO hN what x hx).2.2.2.1;have hC:=TK hN (what:=what) hx
 have hA : GF n what x = if E6 what x then (if Hr n.client then (Jh [] (BI n 7 what 0 x),0) else ((n,[]),100)) else ((n,[]),2):=by
  unfold GF;rw [hN.r,Bool.true_and]
 have hAe : (GF n what x).2 = if E6 what x then (if Hr n.client then 0 else 100) else 2:=by
  rw [hA];split
  ·split <;> rfl
  ·rfl
 have hB : E6 what x = ((decide (what = 2) && AU x) || (decide (what = 3) && B2 x.key)):=rfl;have hI : Hr n.client = (decide (n.client.phase = 0) || decide (n.client.phase = 5)):=rfl;generalize GF n what x = A at *;obtain ⟨⟨A1,A2⟩,Ae⟩:=A;clear hA hN hx;dsimp only at *;generalize Ju n = L at *;generalize Ix n.view = fi at *;generalize AU x = o1 at *;generalize B2 x.key = o2 at *;refine zF A6 Tryz.func7 ?_;unfold View.d View.cells at c7;unfold Node.d Node.cells View.cells Calls.cells Job.cells Item.d Item.cells at *
 have hs : (what = 2 ∧ o1 = true ∧ E6 what x = true) ∨ (what = 3 ∧ o2 = true ∧ E6 what x = true) ∨ (what = 2 ∧ o1 = false ∧ E6 what x = false) ∨ (what = 3 ∧ o2 = false ∧ E6 what x = false) ∨ (what ≠ 2 ∧ what ≠ 3 ∧ E6 what x = false):=by
  rw [hB];clear hB hI hAe hC;cases o1 <;> cases o2 <;> grind
 have hq : (n.client.phase = 0 ∧ Hr n.client = true) ∨ (¬ n.client.phase = 0 ∧ n.client.phase = 5 ∧ Hr n.client = true) ∨ (¬ n.client.phase = 0 ∧ ¬ n.client.phase = 5 ∧ Hr n.client = false):=by
  rw [hI];clear hB hI hAe hC hs;grind
 clear hB hI;generalize E6 what x = B at *;generalize Hr n.client = I at *;obtain ⟨o3,fK⟩ : ∃ o3,(A1.client.item.key == x.key) = o3:=⟨_,rfl⟩;have hK3 : Ae = 0 → o3 = true:=fun e => by rw [← fK,(hC e).2.1];simp
 have hC2 : Ae = 0 → A1.client.what = what ∧ (A1.client.phase = 5 ∨ ¬ (A2.length : Int) = 0):=fun e => ⟨(hC e).1,(hC e).2.2.imp id (fun q z => q (List.length_eq_zero_iff.1 (by omega)))⟩;clear hC
 generalize n.client.phase = ph at *;obtain ⟨z5,g5⟩ : ∃ z,(ph == 5) = z:=⟨_,rfl⟩;have hz5 : ¬ ph = 5 → z5 = false:=fun e => by rw [← g5];exact eq_false' e
 rcases hs with ⟨rfl,rfl,rfl⟩ | ⟨rfl,rfl,rfl⟩ | ⟨rfl,rfl,rfl⟩ | ⟨rfl,rfl,rfl⟩ | ⟨p2,p3,rfl⟩ <;> rcases hq with ⟨rfl,rfl⟩ | ⟨p0,rfl,rfl⟩ | ⟨p0,p5,rfl⟩
 all_goals
  simp only [if_true,Bool.false_eq_true,if_false] at hAe;subst hAe
  try (obtain ⟨k1,k2⟩:=hC2 rfl)
  try (have e:=hK3 rfl;subst e)
  try (have e:=hz5 p5;subst e)
  try (first | (have e : z5 = true:=g5.symm.trans rfl;subst e) | (have e : z5 = false:=g5.symm.trans rfl;subst e))
  clear hC2 hK3 hz5;refine wd Hl [10] [] (Dl f1 fK g5) (R2 @c1 @c2 @c3 @c4 @c5) ?_;with_reducible repeat' first|constructor|intro hc;try simp only[AD] at hc
 all_goals
  refine wd Hl [] [] A0 (AF @c6) ?_;with_reducible repeat' first|constructor|intro hc;try simp only[AD] at hc
 all_goals
  refine Cz (fun k => k ≤ L.length) (fun k : Nat => [(13,.d (.i .i64 k))]) (fun k => L.length - k) 0 (Nat.zero_le _) (fun _ => rfl) ?_ ?_
  ·exact A3.ck rfl
  intro k hk
  by_cases hkl : k < L.length
  ·have f2 : decide ((k : Int) < (L.length : Int)) = true:=decide_eq_true (by omega);obtain ⟨y,hy⟩:=Aa hkl;obtain ⟨xi,m,m1,m2,m3,m4,m5,m6⟩:=l2 k y hy;have c8:=Wi.PE (Bn m).1 (XL m2);rw [Xp m2] at c8;generalize (Bn m).1 = pb at *;clear l2 m2;obtain ⟨mk,mc,ms,md,mky,msl,mdn,mpl,mpr,ml,mi,mco⟩:=m;dsimp only at *;subst m3 m4 m5 m6;have f3:=Gw mi mi;rw [decide_eq_true rfl] at f3;unfold Wi.A8.d Wi.A8.cells at c8;have ix1:=hy;have ix2:=m1;refine wd Hl [] [] (Aj f2 f3) (Aj @c8 @c7) ?_;clear ix2 ix1;with_reducible repeat' first|constructor|intro hc;try simp only[AD] at hc
   refine ⟨k + 1,hkl,by omega,Nat.le_refl _,?_⟩;exact A3.ck rfl
  ·have f2 : decide ((k : Int) < (L.length : Int)) = false:=decide_eq_false (by omega);refine wd Hl [] [] (AF f2) (AF @cw) ?_;with_reducible repeat' first|constructor|intro hc;try simp only[AD] at hc
   exact zE
end Nd
end Go.Proofs.YtkljbfejbakooaaGreatDoor
