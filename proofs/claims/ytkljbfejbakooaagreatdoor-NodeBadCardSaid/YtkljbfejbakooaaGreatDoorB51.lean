/- Part 51 of a proof, put together by a program. Conditions: none beyond those that a theorem states. -/
import Derived.Test.YtkljbfejbakooaaGreatDoorB45
import Derived.Test.YtkljbfejbakooaaGreatDoorB50
set_option linter.unusedSimpArgs false
set_option linter.unusedVariables false
set_option linter.unnecessarySimpa false
set_option maxHeartbeats 40000000
namespace Go.Proofs.YtkljbfejbakooaaGreatDoor
namespace Nd
open Go.Gar
open Wi (A8 B2 Ai AA BN mC Bs Ar)
set_option maxRecDepth 100000
abbrev Cb : List Nat:=[0,1,2,3,5,6,7,8,9,10,13,14,15,40,56,85,92,118]
theorem Qp {n : Node} {m : A8} (hc : n.calls.op.any (Fb m) = false) : (Cx n.calls m).2.2 = false:=by
 cases e : (Cx n.calls m).2.2 with
 | false => rfl
 | true =>
  exfalso;obtain ⟨k1,k2,k3,k4,_⟩:=Vz e;have hok:=IK.1 ((GE.1 k1).2.1 _ k3);have hk:=Vq.1 hok.2.1;have:=List.any_eq_false.1 hc _ k3;apply this;unfold KN at k4;unfold Fb;simp only [Bool.and_eq_true,decide_eq_true_eq] at k4 ⊢;refine ⟨k4.1,k4.2.1,?_,by omega⟩;rw [k4.2.2.1];exact hok.2.2.1.symm
theorem RL (n : Node) (b : List UInt8) (m : A8) (hw : Ox n) : Go.Gar.Fn Tryz.prog 4 [n.d,.by b,m.d] (.b true):=by
 have cw:=Y1;obtain ⟨g,c1,hG⟩:=Uk n
 cases g with
 | true =>
  clear hG;refine zF A6 Tryz.func4 ?_;unfold Node.d Node.cells View.cells Calls.cells Job.cells Wi.A8.d Wi.A8.cells at *;refine wd Cb [] [] A0 (BM @c1 @cw) ?_;with_reducible repeat' first|constructor|intro hc;try simp only[AB] at hc
  exact zE
 | false =>
 have hg:=hG rfl;clear hG;have c2:=Ur n (eG hg hw)
 cases hr : Dq n with
 | false =>
  rw [hr] at c2;refine zF A6 Tryz.func4 ?_;unfold Node.d Node.cells View.cells Calls.cells Job.cells Wi.A8.d Wi.A8.cells at *;refine wd Cb [] [] A0 (EP @c1 @c2 @cw) ?_;with_reducible repeat' first|constructor|intro hc;try simp only[AB] at hc
  exact zE
 | true =>
 rw [hr] at c2;have hN:=gbNb hg hw hr;clear hr hg hw
 by_cases hz : b.length ≤ 300 ∧ m.list.length ≤ 20 ∧ m.item.key.length ≤ 100
 case neg =>
  have hz : (decide ((b.length : Int) > 300) || (decide ((m.list.length : Int) > 20) || decide ((m.item.key.length : Int) > 100))) = true:=by
   simp only [Bool.or_eq_true,decide_eq_true_eq];omega
  refine zF A6 Tryz.func4 ?_;unfold Node.d Node.cells View.cells Calls.cells Job.cells Wi.A8.d Wi.A8.cells at *
  cases f1 : decide ((b.length : Int) > 300) with
  | true =>
   refine wd Cb [] [] (AG f1) (EP @c1 @c2 @cw) ?_;with_reducible repeat' first|constructor|intro hc;try simp only[AB] at hc
   exact zE
  | false =>
  cases f2 : decide ((m.list.length : Int) > 20) with
  | true =>
   refine wd Cb [] [] (BM f1 f2) (EP @c1 @c2 @cw) ?_;with_reducible repeat' first|constructor|intro hc;try simp only[AB] at hc
   exact zE
  | false =>
   rw [f1,f2,Bool.false_or,Bool.false_or] at hz;refine wd Cb [] [] (EP f1 f2 hz) (EP @c1 @c2 @cw) ?_;with_reducible repeat' first|constructor|intro hc;try simp only[AB] at hc
   exact zE
 obtain ⟨z1,z2,z3⟩:=hz;have f1 : decide ((b.length : Int) > 300) = false:=decide_eq_false (by omega);have f2 : decide ((m.list.length : Int) > 20) = false:=decide_eq_false (by omega);have f3 : decide ((m.item.key.length : Int) > 100) = false:=decide_eq_false (by omega);have hbl : b.length < 70368744177664:=Nat.lt_of_le_of_lt z1 (Nat.le_of_ble_eq_true rfl);have hml : m.list.length < 9223372036854775807:=Nat.lt_of_le_of_lt z2 (Nat.le_of_ble_eq_true rfl);have c3:=Wi.NJ b hbl;have c5:=Xl n hN.Y8;obtain ⟨q1,q2,c6⟩:=Hn n.calls m hN.Y8.cl hN.Y8.cn hml;have c7:=Wi.Es m hml;have c8:=Wi.JF m;have c9:=ZK m hml;rw [hN.cB.1,Bool.true_and] at c6;have hb0 : 0 ≤ n.bad:=(Aj.1 hN.r).2.1;have hT:=fun hx => SA n b hN hbl hx
 have hmain : m.right = true → m.dst = n.view.id → m.asks = false → n.calls.op.any (Fb m) = false → Go.Gar.Fn Tryz.prog 12 [n.d,.by (Bs m).1] (.tup [n.d,R5 []]):=fun h1 h2 h3 h4 => by
  have e:=V6 h1;exact QW n (Bs m).1 hN (Uh h1) (by rw [e]) (by rw [e];exact h2) (by rw [e];exact h3) (by rw [e];exact Qp h4)
 clear hN z1 z2 z3 hbl hml;generalize Ar b = p at *;obtain ⟨p1,p2⟩:=p;dsimp only at *;generalize n.calls.op.any (Fb m) = A at *;generalize (Bs m).1 = pb at *;refine zF A6 Tryz.func4 ?_;unfold Calls.d Calls.cells Call.d Call.cells at c6
 by_cases hx : p2 ≠ 0 ∨ p1.dst ≠ n.view.id
 case' pos =>
  have c4:=hT hx;clear hT;obtain ⟨B,hB⟩ : ∃ B,B = (if n.bad < 1099511627776 then n.bad + 1 else n.bad):=⟨_,rfl⟩;rw [← hB] at c4;have hB : (n.bad < 1099511627776 ∧ B = n.bad + 1) ∨ (1099511627776 ≤ n.bad ∧ B = n.bad):=by grind
  have hW : 1099511627776 ≤ n.bad ∨ IntKind.wrap .i64 (n.bad + 1) = n.bad + 1:=by
   rw [IntKind.wrap_i64];omega
  have hx : ¬ (p2 = 0 ∧ p1.dst = n.view.id):=by grind
  unfold Node.d Node.cells View.cells Calls.cells Job.cells Wi.A8.d Wi.A8.cells at *;dsimp only at c4;have wr : Lv [67]:=trivial;refine wd Cb [11] [] (EP f1 f2 f3) (L4 @c1 @c2 @c3 @c4 @c5) ?_;clear wr;with_reducible repeat' first|constructor|intro hc;try simp only[AB] at hc
 case' neg =>
  clear hT;unfold Node.d Node.cells View.cells Calls.cells Job.cells Wi.A8.d Wi.A8.cells at *;have g1:=B3 (show p2 = 0 by grind);have g2:=B3 (show p1.dst = n.view.id by grind);refine wd Cb [11] [] (L4 f1 f2 f3 g1 g2) (EP @c1 @c2 @c3) ?_;with_reducible repeat' first|constructor|intro hc;try simp only[AB] at hc
 all_goals
  cases hmr : m.right with
  | false =>
   rw [hmr] at c7;rw [hmr,Bool.false_and] at c6;refine wd Cb [] [] A0 (EP @c6 @c7 @cw) ?_;with_reducible repeat' first|constructor|intro hc;try simp only[AB] at hc
   exact zE
  | true =>
  rw [hmr] at c7;rw [hmr,Bool.true_and] at c6
  cases has : m.asks with
  | true =>
   rw [has] at c8;refine wd Cb [] [] A0 (VH @c6 @c7 @c8 @cw) ?_;with_reducible repeat' first|constructor|intro hc;try simp only[AB] at hc
   exact zE
  | false =>
  rw [has] at c8
  by_cases hd : m.dst = n.view.id
  ·have g3:=B3 hd
   cases A with
   | true =>
    refine wd Cb [] [] (AG g3) (VH @c6 @c7 @c8 @cw) ?_;with_reducible repeat' first|constructor|intro hc;try simp only[AB] at hc
    exact zE
   | false =>
    have c10:=hmain hmr hd has rfl;refine wd Cb [14] [] (AG g3) (EP @c6 @c7 @c8) ?_;with_reducible repeat' first|constructor|intro hc;try simp only[AB] at hc
    refine wd Cb [15] [(0,7),(1,7)] A0 (BM @c9 @c10) ?_;with_reducible repeat' first|constructor|intro hc;try simp only[AB] at hc
    refine wd Cb [] [] A0 (BM @c5 @cw) ?_;with_reducible repeat' first|constructor|intro hc;try simp only[AB] at hc
    exact zE
  ·have g3:=eq_false' hd;refine wd Cb [] [] (AG g3) (VH @c6 @c7 @c8 @cw) ?_;with_reducible repeat' first|constructor|intro hc;try simp only[AB] at hc
   exact zE
end Nd
end Go.Proofs.YtkljbfejbakooaaGreatDoor
