/- Part 42 of a proof, put together by a program. Conditions: none beyond those that a theorem states. -/
import Derived.Test.YtkljbfejbakooaaGreatDoorN39
import Derived.Test.YtkljbfejbakooaaGreatDoorN41
set_option linter.unusedSimpArgs false
set_option linter.unusedVariables false
set_option linter.unnecessarySimpa false
set_option maxHeartbeats 40000000
namespace Go.Proofs.YtkljbfejbakooaaGreatDoor
namespace Wi
open Go.Gar
set_option maxRecDepth 4000
def Bn (m : A8) : List UInt8 × Int:=if m.right then BX (Ay m) else ([],2)
def Bl (b : List UInt8) : A8 × Int:=if (As b).2 = 0 then Da (As b).1 else (AC,(As b).2)
theorem Qa {m : A8} (h : m.right = true) : Bn m = ((BX (Ay m)).1,0):=by
 have:=IW h;unfold Bn;rw [if_pos h,FV (by omega)]
theorem YI (m : A8) (hl : m.list.length < 9223372036854775807) : Go.Gar.Fn Tryz.prog 123 [m.d] (.tup [.by (Bn m).1,.i .i64 (Bn m).2]):=by
 have hP:=TA m hl
 cases h : m.right with
 | false =>
  have e : Bn m = ([],2):=by unfold Bn;rw [h];rfl
  have e2 : Ha m = ([],2):=by unfold Ha;rw [h];rfl
  rw [e2] at hP;unfold A8.d A8.cells at *;refine zF A6 Tryz.func123 ?_;refine wk [0,1,2,3,4,5,12] [] A0 (AF @hP) ?_;refine ⟨_,_,rfl,rfl,?_⟩;simp [AR,AB,A7,A4,e]
 | true =>
  have e : Bn m = BX (Ay m):=by unfold Bn;rw [h];rfl
  have e2 : Ha m = (Ay m,0):=by unfold Ha;rw [h];rfl
  have hC:=Y4 (Ay m);rw [e2] at hP;unfold A8.d A8.cells at *;refine zF A6 Tryz.func123 ?_;refine wk [0,1,2,3,4,5,12] [] A0 (Aj @hP @hC) ?_;refine ⟨_,_,rfl,rfl,?_⟩;simp [AR,AB,A7,A4,e]
theorem MK (b : List UInt8) (hb : b.length < 70368744177664) : Go.Gar.Fn Tryz.prog 43 [.by b] (.tup [(Bl b).1.d,.i .i64 (Bl b).2]):=by
 have hO:=cC b hb;refine zF A6 Tryz.func43 ?_
 by_cases h : (As b).2 = 0
 ·have e : Bl b = Da (As b).1:=if_pos h;have hR:=cH (As b).1;have f:=CI h;unfold A8.d A8.cells at *;refine wk [0,2,3,4,5,12] [] (AF f) (Aj @hO @hR) ?_;refine ⟨_,_,rfl,rfl,?_⟩;simp [AR,AB,A7,A4,e]
 ·have e : Bl b = (AC,(As b).2):=if_neg h;have f:=CJ h;unfold A8.d A8.cells;refine wk [0,2,3,4,5,12] [] (AF f) (AF @hO) ?_;refine ⟨_,_,rfl,rfl,?_⟩;simp [AR,AB,A7,A4,e,AC,AE]
theorem bg {m : A8} (h : m.right = true) : Bl (BX (Ay m)).1 = (m,0):=by
 have:=IW h;unfold Bl;rw [Nr (by omega)];simp only [if_true,Sw h]
end Wi
end Go.Proofs.YtkljbfejbakooaaGreatDoor
namespace Go.Proofs.YtkljbfejbakooaaGreatDoor
namespace Nd
open Go.Gar
open Wi (A8 B7 AU AC B2 Bn Bl)
set_option maxRecDepth 4000
def As (c : Calls) (m : A8) (why ref now : Int) : Calls × A8 × Int :=
 if Bh c then
  (if c.op.length = 16 ∨ c.many = 1048576 then (c,AC,100)
   else
    let q : A8:={ m with call:=c.id * 1048576 + (c.many + 1),src:=c.id }
    if GX now && (q.asks && q.right) then (⟨c.id,c.many + 1,c.op ++ [⟨c.id * 1048576 + (c.many + 1),q,why,ref,now,1⟩]⟩,q,0) else (c,AC,2))
 else (c,AC,2)
abbrev NS : Type:=Node × List Em
def MG (m : A8) : List Em:=if (Bn m).2 = 0 then [⟨m.dst,(Bn m).1,false⟩] else []
def F5 (s : NS) (a : A8 × Int) : NS :=
 if (As s.1.calls a.1 a.2 0 s.1.clock).2.2 = 0 then ({ s.1 with calls:=(As s.1.calls a.1 a.2 0 s.1.clock).1 },s.2 ++ MG (As s.1.calls a.1 a.2 0 s.1.clock).2.1)
 else (DY s.1 a.2,s.2)
def DZ (s : NS) (l : List (A8 × Int)) : NS:=l.foldl F5 s
def Jh (g : List Em) (r : Node × List (A8 × Int)) : NS:=DZ (r.1,g) r.2
def Hr (j : Job) : Bool:=decide (j.phase = 0) || decide (j.phase = 5)
def E6 (what : Int) (x : Item) : Bool:=(decide (what = 2) && AU x) || (decide (what = 3) && B2 x.key)
def GF (n : Node) (what : Int) (x : Item) : NS × Int :=
 if B0 n && E6 what x then
  (if Hr n.client then (Jh [] (BI n 7 what 0 x),0) else ((n,[]),100))
 else ((n,[]),2)
def IP (n : Node) (i : Nat) (x : Item) : A8:=⟨5,(En n.view.id (n.calls.many + 1 + i)).1,n.view.id,Ix n.view,0,false,false,0,0,[],x,0⟩
def EQ (n : Node) : Nat → List Item → List Em
 | _,[] => []
 | i,x :: r => if (En n.view.id (n.calls.many + 1 + i)).2 = 0 then MG (IP n i x) ++ EQ n (i + 1) r else []
def Ju (n : Node) : List Em:=if B0 n then EQ n 0 n.keep else []
end Nd
end Go.Proofs.YtkljbfejbakooaaGreatDoor
