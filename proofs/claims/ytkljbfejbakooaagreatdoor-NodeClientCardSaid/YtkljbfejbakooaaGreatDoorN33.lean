/- Part 33 of a proof, put together by a program. Conditions: none beyond those that a theorem states. -/
import Derived.Test.YtkljbfejbakooaaGreatDoorN27
import Derived.Test.YtkljbfejbakooaaGreatDoorN32
set_option linter.unusedSimpArgs false
set_option linter.unusedVariables false
set_option linter.unnecessarySimpa false
set_option maxHeartbeats 40000000
namespace Go.Proofs.YtkljbfejbakooaaGreatDoor
namespace Nd
open Go.Gar
open Wi (A8 B7 AU AC B2 mC)
set_option maxRecDepth 4000
abbrev Ml : List Nat:=[0,1,2,3,4,7,8,9,10,11,12,13,14,29]
theorem LS (v : View) (what place : Int) (x : Item) (hb : v.base.length ≤ 1000) (hl : v.list.length ≤ 1000) (hs : x.key.length ≤ 9223372036854775807) : Go.Gar.Fn Tryz.prog 137 [v.d,.i .u8 what,.i .i64 place,x.d] (.tup [(C7 v what place x).job.d,BK (C7 v what place x).asks,.b (C7 v what place x).own]):=by
 have c1:=Yt what place x hs;have c2:=HA v hb hl;generalize hJ : C7 v what place x = r;unfold C7 at hJ;generalize Ga what place x = q at *;obtain ⟨at_,y,b⟩:=q;dsimp only at *;have c3:=iG v at_ hb hl;generalize jU v at_ = lk at *;have c4:=Wx v ⟨what,0,lk,y,0,[],0⟩ (by omega);unfold jE at c4;unfold View.d View.cells at c2 c3;unfold Look.d Look.cells at c3;unfold Item.d Item.cells at c1;refine zF A6 Tryz.func137 ?_;unfold View.d View.cells Item.d Item.cells
 cases b with
 | false =>
  rw [Bool.false_and,if_neg (by decide)] at hJ;subst hJ;refine wd Ml [] [] A0 (AF @c1) ?_;refine ⟨_,_,rfl,rfl,?_⟩;simp [AR,AB,A7,A4,Job.d,Job.cells,PR,AE]
 | true =>
  rw [Bool.true_and] at hJ
  cases hR : Aw v with
  | false =>
   rw [hR,if_neg (by decide)] at hJ;rw [hR] at c2;subst hJ;refine wd Ml [] [] A0 (Aj @c1 @c2) ?_;refine ⟨_,_,rfl,rfl,?_⟩;simp [AR,AB,A7,A4,Job.d,Job.cells,PR,AE]
  | true =>
   rw [hR,if_pos rfl] at hJ;rw [hR] at c2;rw [hJ] at c4;clear hJ;unfold jC at c4;refine wd Ml [6] [] A0 (Dl @c1 @c2 @c3) ?_;refine Ap (A3.TQ 4 33 (.is []) rfl rfl rfl rfl trivial) (by simp) ?_;have d1:=Ds.mk [4] (c4);refine wd Ml [] [(2,6),(3,6),(4,6),(5,6)] A0 A0 ?_;clear d1;refine ⟨_,_,rfl,rfl,?_⟩;simp [AR,AB,A7,A4,Job.d,Job.cells]
end Nd
end Go.Proofs.YtkljbfejbakooaaGreatDoor
