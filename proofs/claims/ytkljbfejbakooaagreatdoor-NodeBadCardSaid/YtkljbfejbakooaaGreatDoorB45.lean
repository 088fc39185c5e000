/- Part 45 of a proof, put together by a program. Conditions: none beyond those that a theorem states. -/
import Derived.Test.YtkljbfejbakooaaGreatDoorB29
import Derived.Test.YtkljbfejbakooaaGreatDoorB43
import Derived.Test.YtkljbfejbakooaaGreatDoorB44
set_option linter.unusedSimpArgs false
set_option linter.unusedVariables false
set_option linter.unnecessarySimpa false
set_option maxHeartbeats 40000000
namespace Go.Proofs.YtkljbfejbakooaaGreatDoor
namespace Nd
open Go.Gar
open Wi (A8 B2 Ai AA BN mC Bs Ar)
set_option maxRecDepth 4000
abbrev D4 : List Nat:=[0,1,2,4,5,6,7,8,9,10,11,12,13,24,34,36,57,72]
theorem SD (b : List UInt8) : B5 (Ar b).1:=by
 have:=Wi.SB b;unfold B5;omega
theorem SA (n : Node) (b : List UInt8) (h : NB n) (hb : b.length < 70368744177664) (hx : (Ar b).2 ≠ 0 ∨ (Ar b).1.dst ≠ n.view.id) : Go.Gar.Fn Tryz.prog 12 [n.d,.by b] (.tup [({ n with bad:=if n.bad < 1099511627776 then n.bad + 1 else n.bad } : Node).d,R5 []]):=by
 have c1:=OM n h.Y8;have c2:=MC n h.Y8;have c3:=Wi.HY b hb;rw [h.r] at c2;generalize Ar b = p at *;obtain ⟨m,e⟩:=p;dsimp only at *;refine zF A6 Tryz.func12 ?_;have hbad:=(Aj.1 h.r).2.1;unfold Node.d Node.cells View.cells Calls.cells Job.cells Wi.A8.d Wi.A8.cells at *;have hE : (e = 0 ∧ ¬ m.dst = n.view.id) ∨ ¬ e = 0:=by grind
 by_cases hq : n.bad < 1099511627776
 ·rw [if_pos hq];have f2:=decide_eq_true hq;rcases hE with ⟨g1,g2⟩ | g1
  ·have f1:=B3 g1;have f3:=eq_false' g2;have sc : No 3:=trivial;refine wd D4 [15] [] (EP f1 f2 f3) (EP @c1 @c2 @c3) ?_;clear sc;with_reducible repeat' first|constructor|intro hc;try simp only[AB] at hc
   have sc : No 3:=trivial;refine wd D4 [] [(2,4),(3,4)] A0 A0 ?_;clear sc;with_reducible repeat' first|constructor|intro hc;try simp only[AB] at hc
   exact zE
  ·have f1:=eq_false' g1;have sc : No 3:=trivial;refine wd D4 [15] [] (BM f1 f2) (EP @c1 @c2 @c3) ?_;clear sc;with_reducible repeat' first|constructor|intro hc;try simp only[AB] at hc
   have sc : No 3:=trivial;refine wd D4 [] [(2,4),(3,4)] A0 A0 ?_;clear sc;with_reducible repeat' first|constructor|intro hc;try simp only[AB] at hc
   exact zE
 ·rw [if_neg hq];have f2:=decide_eq_false hq;rcases hE with ⟨g1,g2⟩ | g1
  ·have f1:=B3 g1;have f3:=eq_false' g2;have sc : No 3:=trivial;refine wd D4 [15] [] (EP f1 f2 f3) (EP @c1 @c2 @c3) ?_;clear sc;with_reducible repeat' first|constructor|intro hc;try simp only[AB] at hc
   have sc : No 3:=trivial;refine wd D4 [] [(2,4),(3,4)] A0 A0 ?_;clear sc;with_reducible repeat' first|constructor|intro hc;try simp only[AB] at hc
   exact zE
  ·have f1:=eq_false' g1;have sc : No 3:=trivial;refine wd D4 [15] [] (BM f1 f2) (EP @c1 @c2 @c3) ?_;clear sc;with_reducible repeat' first|constructor|intro hc;try simp only[AB] at hc
   have sc : No 3:=trivial;refine wd D4 [] [(2,4),(3,4)] A0 A0 ?_;clear sc;with_reducible repeat' first|constructor|intro hc;try simp only[AB] at hc
   exact zE
theorem QW (n : Node) (b : List UInt8) (h : NB n) (hb : b.length < 70368744177664) (he : (Ar b).2 = 0) (hi : (Ar b).1.dst = n.view.id) (ha : (Ar b).1.asks = false) (hc : (Cx n.calls (Ar b).1).2.2 = false) : Go.Gar.Fn Tryz.prog 12 [n.d,.by b] (.tup [n.d,R5 []]):=by
 have c1:=OM n h.Y8;have c2:=MC n h.Y8;have c3:=Wi.HY b hb;have hm:=SD b;rw [h.r] at c2;generalize Ar b = p at *;obtain ⟨m,e⟩:=p;dsimp only at *;have c4:=Wi.J9 m;refine zF A6 Tryz.func12 ?_;have f1:=B3 he;have f3:=B3 hi;rw [ha] at c4;have c5:=Ty n.calls m h.Y8.cl h.Y8.cn (by unfold B5 at hm;omega);generalize Cx n.calls m = q at *;obtain ⟨q1,x,q3⟩:=q;dsimp only at *;subst hc;unfold Node.d Node.cells View.cells Calls.cells Job.cells Wi.A8.d Wi.A8.cells Calls.d Calls.cells Call.d Call.cells at *;have sc : No 3:=trivial;refine wd D4 [15] [] (BM f1 f3) (L4 @c1 @c2 @c3 @c4 @c5) ?_;clear sc;with_reducible repeat' first|constructor|intro hc;try simp only[AB] at hc
 have sc : No 3:=trivial;refine wd D4 [] [(2,4),(3,4)] A0 A0 ?_;clear sc;with_reducible repeat' first|constructor|intro hc;try simp only[AB] at hc
 exact zE
end Nd
end Go.Proofs.YtkljbfejbakooaaGreatDoor
