/- Part 49 of the texts of this proof, put together by a program and made short.
Conditions: none; what each theorem asks stands in its own hypotheses. -/
import Derived.Test.YtagnjflbhjmefaaGreatRb07
import Derived.Test.YtagnjflbhjmefaaGreatRb48
import Derived.Ground.NamesProg
import Derived.Shelf.Slices.In.SortAlone
import Derived.Shelf.Slices.In.SortNone
import Derived.Sort.Walk0
import Derived.KernelRfl
import Derived.RangeFuncIn
import Derived.Sort.Grow
import Derived.Laws.Cover3
import Derived.RecoverIn
import Derived.ProofKit
import Derived.OpenShut
import Derived.CallsIn
import Derived.RangeFuncLeaves
import Derived.OrdersIn
import Derived.TacticsIn
import Derived.ChangeKeysEq
import Derived.Laws.AppendOwn
import Derived.Laws.OwnMore
import Derived.Laws.MakeOwn
import Derived.Laws.Rows
import Derived.Laws.Cells
import Derived.Laws.Tables
import Derived.Laws.CopyRow
import Derived.Laws.Strings
import Derived.Laws.IdiomStrings
import Derived.Laws.BytesArg
import Derived.Test.YtagnjflbhjmefaaGreatProg
set_option linter.unusedSimpArgs false
set_option linter.unusedVariables false
set_option linter.unnecessarySimpa false
set_option maxHeartbeats 40000000
namespace Go.Proofs.YtagnjflbhjmefaaGreat
namespace Nd
open Go.Gar
open Wi (AE Az B7 BC)
set_option maxRecDepth 4000
theorem H7 : Go.Gar.Fn Tryz.prog 9 [] (.b true):=by
 have cN:=PD [9,40] (fun y hy => by
  simp only [List.mem_cons,List.not_mem_nil,or_false] at hy
  rcases hy with rfl | rfl
  ·exact DK _ (by omega)
  ·exact DK _ (by omega)) (by decide)
 rw [new0] at cN
 have cR:=Mt _ ok0
 rw [YL] at cR
 have cP:=Hw _ 9 ok0
 rw [Yy] at cP
 have cQ:=Hw _ 10 ok0
 rw [nextn] at cQ
 have cD:=V4 _ 20 0 0 0 0 [] [] false ok0 rfl (DK _ (by omega)) (by decide) Xl
 rw [Yx] at cD
 have cE:=Ks _ 20 ok1
 rw [Wa] at cE
 have cS:=Mt _ ok1
 rw [Yi] at cS
 have cW:=JR _ 20 2 ok1
 rw [YQ] at cW
 have cC:=JV _ [] ok1 rfl (fun g hg => by cases hg)
 rw [Wz] at cC
 have cB:=JV _ [] okb rfl (fun g hg => by cases hg)
 rw [Wj] at cB
 have cO:=O0 _ _ _ _ ok0
 have eb : ∀ a d : Node,setRows 2 [.is [50]] 0 [a.cells,d.cells] = [(TG a).cells,d.cells]:=fun a d => rfl
 generalize n9 = a at *
 generalize n20 = b at *
 generalize n40 = d at *
 unfold AD.d AD.cells at *
 simp only [List.map_cons,List.map_nil,List.length_cons,List.length_nil,A2] at cN cR cP cQ cD cE cS cW cC cB cO
 refine A3 A8 Tryz.func9 rfl rfl (Nat.le_of_ble_eq_true rfl) ?_
 have nS:=True.intro;obtain ⟨lv,st,ns,nc⟩:=wq [0,1,3,4,5,6,8,9,10,11,12,13,14,15,16,75] [10];have c1:=@cN;have c2:=@cR;have c3:=@cP;have c4:=@cQ;have z1:=@cD;have c5:=@cE;have c6:=@cS;have c7:=@cW;have d1:=Ds.mk [] (cO);refine wk ?_;clear nc ns st lv d1 c7 c6 c5 z1 c4 c3 c2 c1;repeat' (first|with_reducible constructor|(with_reducible intro hc;try simp only[A1] at hc))
 have nS:=True.intro
 repeat' (first | ((with_reducible refine sg ?_);first | with_reducible rfl | ((with_reducible refine Cy ?_);first | kernel_rfl | rfl | (simp [Bh,C9,nS];done)) | with_reducible refine Cl ?_ ?_ | with_reducible exact Nat.beq_refl _ | with_reducible exact Ad _ | ((with_reducible refine decide_eq_true ?_);first | omega | (simp only [Bl,nS];omega)) | decide | (simp [Bl,slc,Ac,D.one,Ax,AV.one,nS];done) | (simp [Bl,nS];omega)) | ((with_reducible refine WX ?_);first | (refine EZ rfl ?_;refine WT A8 rfl rfl rfl rfl ?_) | refine Xq A8 rfl rfl rfl rfl ?_ ?_ | refine Xn [0,1,3,4,5,6,8,9,10,11,12,13,14,15,16,75] rfl ?_ | refine Xa A8 rfl rfl rfl rfl rfl ?_ ?_ | refine Xw A8 rfl rfl rfl rfl ?_ ?_ | refine Xs rfl rfl rfl ?_ | (refine T5 rfl rfl (fun hc => ?_) (fun hc => ?_) <;> (fail_if_success (with_reducible first | exact tF hc | exact fT hc)) <;> (try simp only [A1] at hc) <;> (try (exfalso;omega)))) | refine Fz ?_ | refine MI [11] rfl ?_ | (refine Xsc A8 rfl rfl rfl rfl ?_ rfl) | refine EI ?_ | refine Fw ?_ | refine D9 ?_ | refine EJ ?_ | refine CQ rfl ?_ | refine CP rfl ?_ | (refine GB rfl (fun hc => ?_) (fun hc => ?_) <;> (try simp only [A1] at hc) <;> (try (exfalso;omega))))
 refine B3 (A0.freeze 4 (x:=.sl 76 [(TG a).cells,d.cells]) rfl) (by rw [Hs];exact Nat.le_refl _) ?_
 simp only [Ro,E5,A7.EV,AV.EV,AV.J3,Y6,Nat.reduceEqDiff,Nat.reduceAdd,decide_true,decide_false,A6,List.length_cons,List.length_nil,if_true,if_false,reduceCtorEq]
 have nS:=True.intro;obtain ⟨lv,st,ns,nc⟩:=wq [0,1,3,4,5,6,8,9,10,11,12,13,14,15,16,75] [];have c1:=@cC;have c2:=@cB;refine wk ?_;clear nc ns st lv c2 c1;repeat' (first|with_reducible constructor|(with_reducible intro hc;try simp only[A1] at hc))
 refine ⟨_,_,rfl,rfl,?_⟩;simp [AH,A6,A5,A4]
end Nd
end Go.Proofs.YtagnjflbhjmefaaGreat
