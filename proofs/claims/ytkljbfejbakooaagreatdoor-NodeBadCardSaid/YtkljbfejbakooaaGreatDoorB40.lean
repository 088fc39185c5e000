/- Part 40 of a proof, put together by a program. Conditions: none beyond those that a theorem states. -/
import Derived.Test.YtkljbfejbakooaaGreatDoorB25
import Derived.Test.YtkljbfejbakooaaGreatDoorB33
set_option linter.unusedSimpArgs false
set_option linter.unusedVariables false
set_option linter.unnecessarySimpa false
set_option maxHeartbeats 40000000
namespace Go.Proofs.YtkljbfejbakooaaGreatDoor
namespace Nd
open Go.Gar
open Wi (A8 B2 Ai AA BN Bs Ar)
set_option maxRecDepth 4000
abbrev Bf : Call:=⟨0,AA,0,0,0,0⟩
def Bd (c : Calls) (m : A8) (why ref now : Int) : Calls × A8 × Int :=
 if BB c then
  (if c.op.length = 16 ∨ c.many = 1048576 then (c,AA,100)
   else
    let q : A8:={ m with call:=c.id * 1048576 + (c.many + 1),src:=c.id }
    if HQ now && (q.asks && q.right) then (⟨c.id,c.many + 1,c.op ++ [⟨c.id * 1048576 + (c.many + 1),q,why,ref,now,1⟩]⟩,q,0) else (c,AA,2))
 else (c,AA,2)
def KN (id : Int) (m : A8) (x : Call) : Bool:=decide (m.call = x.id) && (decide (m.src = x.msg.dst) && (decide (m.dst = id) && decide (m.kind = x.msg.kind + 6)))
def Cx (c : Calls) (m : A8) : Calls × Call × Bool :=
 if BB c && m.right then
  (match c.op.find? (KN c.id m) with
   | some x => (⟨c.id,c.many,c.op.filter fun y => !KN c.id m y⟩,x,true)
   | none => (c,Bf,false))
 else (c,Bf,false)
abbrev NS : Type:=Node × List MR
end Nd
end Go.Proofs.YtkljbfejbakooaaGreatDoor
namespace Go.Proofs.YtkljbfejbakooaaGreatDoor
namespace Nd
open Go.Gar
open Wi (A8 B2 Ai AA BN mC Bs Ar)
set_option maxRecDepth 4000
abbrev JU : List Nat:=[0,1,2,3,4,5,6]
theorem ZB (c : Calls) (x : Call) (m : A8) (hk : 1 ≤ x.msg.kind ∧ x.msg.kind ≤ 6) : Go.Gar.Fn Tryz.prog 127 [c.d,x.d,m.d] (.b (KN c.id m x)):=by
 have hT : KN c.id m x = (decide (m.call = x.id) && (decide (m.src = x.msg.dst) && (decide (m.dst = c.id) && decide (m.kind = x.msg.kind + 6)))):=rfl;have f5 : (x.msg.kind + 6) % 256 = x.msg.kind + 6:=by omega
 rw [hT];clear hT;refine zF A6 Tryz.func127 ?_;unfold Wi.A8.d Wi.A8.cells Call.d Call.cells Calls.d Calls.cells
 by_cases h1 : m.call = x.id
 case neg =>
  have f1:=eq_false' h1;rw [decide_eq_false h1,Bool.false_and];refine wk JU [] (AG f1) A0 ?_;exact zE
 case pos =>
 have f1:=B3 h1;rw [decide_eq_true h1,Bool.true_and]
 by_cases h2 : m.src = x.msg.dst
 case neg =>
  have f2:=eq_false' h2;rw [decide_eq_false h2,Bool.false_and];refine wk JU [] (BM f1 f2) A0 ?_;exact zE
 case pos =>
 have f2:=B3 h2;rw [decide_eq_true h2,Bool.true_and]
 by_cases h3 : m.dst = c.id
 case neg =>
  have f3:=eq_false' h3;rw [decide_eq_false h3,Bool.false_and];refine wk JU [] (EP f1 f2 f3) A0 ?_;exact zE
 case pos =>
 have f3:=B3 h3;rw [decide_eq_true h3,Bool.true_and]
 by_cases h4 : m.kind = x.msg.kind + 6
 ·have f4:=B3 h4;rw [decide_eq_true h4];refine wk JU [] (L4 f1 f2 f3 f4 f5) A0 ?_;exact zE
 ·have f4:=eq_false' h4;rw [decide_eq_false h4];refine wk JU [] (L4 f1 f2 f3 f4 f5) A0 ?_;exact zE
end Nd
end Go.Proofs.YtkljbfejbakooaaGreatDoor
