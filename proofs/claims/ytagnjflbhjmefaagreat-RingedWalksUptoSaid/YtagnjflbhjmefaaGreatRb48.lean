/- Part 48 of the texts of this proof, put together by a program and made short.
Conditions: none; what each theorem asks stands in its own hypotheses. -/
import Derived.Test.YtagnjflbhjmefaaGreatRb29
import Derived.Test.YtagnjflbhjmefaaGreatRb31
import Derived.Test.YtagnjflbhjmefaaGreatRb47
import Derived.Ground.NamesProg
import Derived.Shelf.Slices.In.SortAlone
import Derived.Shelf.Slices.In.SortNone
import Derived.Sort.Walk0
import Derived.KernelRfl
import Derived.RangeFuncIn
import Derived.Sort.Grow
import Derived.Laws.Cover3
import Derived.RecoverIn
import Derived.ProofKit
import Derived.OpenShut
import Derived.CallsIn
import Derived.RangeFuncLeaves
import Derived.OrdersIn
import Derived.TacticsIn
import Derived.ChangeKeysEq
import Derived.Laws.AppendOwn
import Derived.Laws.OwnMore
import Derived.Laws.MakeOwn
import Derived.Laws.Rows
import Derived.Laws.Cells
import Derived.Laws.Tables
import Derived.Laws.CopyRow
import Derived.Laws.Strings
import Derived.Laws.IdiomStrings
import Derived.Laws.BytesArg
import Derived.Test.YtagnjflbhjmefaaGreatProg
set_option linter.unusedSimpArgs false
set_option linter.unusedVariables false
set_option linter.unnecessarySimpa false
set_option maxHeartbeats 40000000
namespace Go.Proofs.YtagnjflbhjmefaaGreat
namespace Nd
open Go.Gar
open Wi (AE Az B7 BC)
set_option maxRecDepth 4000
theorem MW (id : Int) (base : List Int) (hid : i64 id) (hb : base.length ≤ 1000) : LA (F9 id base).1:=by
 unfold F9
 split
 ·have e1:=Ll id base hb
  have e2:=Lu id base
  have e3:=Qq id base hid
  have e4:=QU id
  constructor
  ·exact e3
  ·intro y hy
   replace hy : y ∈ (newT id base).1.list:=hy
   rw [e2] at hy;cases hy
  ·exact e1
  ·show (newT id base).1.list.length ≤ 1000
   rw [e2];exact Nat.zero_le _
  ·intro x hx
   replace hx : x ∈ (newC id).1.op:=hx
   rw [e4] at hx;cases hx
  ·show (newC id).1.op.length ≤ 1048576
   rw [e4];exact Nat.zero_le _
  ·intro x hx;cases hx
  all_goals exact Nat.zero_le _
 ·exact Te
def n9 : Node:=(F9 9 [9,40]).1
def n20 : Node:=(F9 20 [9,40]).1
def n40 : Node:=(F9 40 [9,40]).1
def TG (n : Node) : Node:=⟨⟨n.view.id,n.view.base,[50],n.view.pred,n.view.f⟩,n.clock,n.calls,n.seen,n.phase,n.of_,n.finger,n.mirror,n.client,n.next,n.last,n.keep,n.bad⟩
theorem DK (n : Int) (h : 0 ≤ n ∧ n < 65536) : i64 n:=by unfold i64;omega
theorem Tk : LA n9:=MW 9 [9,40] (DK _ (by omega)) (by decide)
theorem XH : LA n20:=MW 20 [9,40] (DK _ (by omega)) (by decide)
theorem PX : LA n40:=MW 40 [9,40] (DK _ (by omega)) (by decide)
theorem Vi {n : Node} (h : LA n) : LA (TG n):=by
 obtain ⟨h1,h2,h3,h4,h5,h6,h7,h8,h9,h10,h11,h12⟩:=h
 refine ⟨h1,fun y hy => ?_,h3,(by show ([50] : List Int).length ≤ 1000;decide),h5,h6,h7,h8,h9,h10,h11,h12⟩
 replace hy : y ∈ [50]:=hy
 rw [List.mem_singleton] at hy
 subst hy
 exact DK _ (by omega)
theorem Q7 {nodes : List Node} (h : ∀ n ∈ nodes,LA n) (hn : nodes.length ≤ 12) : I7 ⟨nodes,[],[9,40],[],0⟩ :=
 ⟨by show nodes.length ≤ 1048576;omega,h,Nat.zero_le _,by show ([9,40] : List Int).length ≤ _;decide,Nat.zero_le _⟩
theorem ok0 : I7 ⟨[n9,n40],[],[9,40],[],0⟩:=Q7 (by
 intro n hn;simp only [List.mem_cons,List.not_mem_nil,or_false] at hn
 rcases hn with rfl | rfl
 ·exact Tk
 ·exact PX) (by decide)
theorem ok1 : I7 ⟨[n9,n20,n40],[],[9,40],[],0⟩:=Q7 (by
 intro n hn;simp only [List.mem_cons,List.not_mem_nil,or_false] at hn
 rcases hn with rfl | rfl | rfl
 ·exact Tk
 ·exact XH
 ·exact PX) (by decide)
theorem okb : I7 ⟨[TG n9,n40],[],[9,40],[],0⟩:=Q7 (by
 intro n hn;simp only [List.mem_cons,List.not_mem_nil,or_false] at hn
 rcases hn with rfl | rfl
 ·exact Vi Tk
 ·exact PX) (by decide)
theorem new0 : MF [9,40] = (⟨[n9,n40],[],[9,40],[],0⟩,0):=by
 unfold MF
 rw [if_pos (by decide)];rfl
theorem YL : ET ⟨[n9,n40],[],[9,40],[],0⟩ = ([9,40],true):=by decide +kernel
theorem Xl : AN ⟨[n9,n40],[],[9,40],[],0⟩ = true:=by decide +kernel
theorem Yy : Eg ⟨[n9,n40],[],[9,40],[],0⟩ 9 = (40,true):=by decide +kernel
theorem nextn : Eg ⟨[n9,n40],[],[9,40],[],0⟩ 10 = (0,false):=by decide +kernel
theorem Wa : DR ⟨[n9,n20,n40],[],[9,40],[],0⟩ 20 = (1,true):=by decide +kernel
theorem Yi : ET ⟨[n9,n20,n40],[],[9,40],[],0⟩ = ([9,40],true):=by decide +kernel
theorem YQ : Ci ⟨[n9,n20,n40],[],[9,40],[],0⟩ 20 2 = [20,40,9]:=by decide +kernel
theorem Wz : Bq ⟨[n9,n20,n40],[],[9,40],[],0⟩ [] = true:=by decide +kernel
theorem Wj : Bq ⟨[TG n9,n40],[],[9,40],[],0⟩ [] = false:=by decide +kernel
theorem Yx : Fb ⟨[n9,n40],[],[9,40],[],0⟩ 20 = (⟨[n9,n20,n40],[],[9,40],[],0⟩,0):=by
 have e1 : OX ⟨[n9,n40],[],[9,40],[],0⟩ 20 = true:=by decide +kernel
 have e2 : FD 20 n9 = true:=by decide +kernel
 have e3 : FD 20 n40 = false:=by decide +kernel
 unfold Fb
 rw [if_pos e1]
 simp only [List.takeWhile_cons,List.dropWhile_cons,e2,e3,if_true,Bool.false_eq_true,if_false,List.takeWhile_nil,List.dropWhile_nil]
 rfl
end Nd
end Go.Proofs.YtagnjflbhjmefaaGreat
