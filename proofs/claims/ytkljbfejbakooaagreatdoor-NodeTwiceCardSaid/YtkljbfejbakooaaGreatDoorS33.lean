/- Part 33 of a proof. Conditions: those that its theorems state. -/
import Derived.Test.YtkljbfejbakooaaGreatDoorS31
import Derived.Test.YtkljbfejbakooaaGreatDoorS32
set_option linter.unusedSimpArgs false
set_option linter.unusedVariables false
set_option maxHeartbeats 40000000
set_option maxRecDepth 4000
namespace Go.Proofs.YtkljbfejbakooaaGreatDoor
open Go Go.Gar Go.RowKit
set_option maxRecDepth 100000 in
theorem MZ(os:Os)(started:os.Started)(H:Type)(enc:TypeId×Value->H):
  ReturnsInHanded {} Tryz.checked os 5 .any (fun w args=>(Rows.nodeTwiceSpec.pre enc Tryz.prog Tryz.f5 [] false w args/\laidMetH Tryz.prog N5 w)/\sizedMet enc Tryz.prog Tryz.f5 (OpenSpec.ofChange Rows.nodeTwiceSpec) false w args) (Rows.nodeTwiceSpec.post enc Tryz.prog Tryz.f5 false true false false):=by
 refine returnsInHanded_of_change_and (C:=Tryz.checked) (X:=fun w _=>laidMetH Tryz.prog N5 w) (fun _ _ _ hh h=>h.of_heap hh) own started (by kernel_rfl) Tryz.func5
  (ChangeSpec.witness_shaped (enc:=enc) (C:=Tryz.checked) (os:=os) (X:=fun w _=>laidMetH Tryz.prog N5 w) false (World.doorLaid Tryz.prog 27 os) #[.agg #[.int .i64 0,.slice none 0 0,.slice none 0 0,.int .i64 0,.int .i64 0,.int .i64 0,.int .i64 0,.int .i64 0,.int .i64 0,.int .i64 0,.int .i64 0,.int .i64 0,.int .i64 0,.int .i64 0,.int .i64 0,.int .i64 0,.int .i64 0,.int .i64 0,.int .i64 0,.int .i64 0,.int .i64 0,.int .i64 0,.int .i64 0,.slice none 0 0,.slice none 0 0,.int .u8 0,.int .i64 0,.int .u8 0,.int .u8 0,.int .i64 0,.int .i64 0,.int .i64 0,.bool false,.bool false,.int .i64 0,.string ⟨#[]⟩,.int .i64 0,.int .i64 0,.bool false,.int .i64 0,.slice none 0 0,.int .i64 0,.int .u8 0,.int .u8 0,.int .i64 0,.int .i64 0,.int .i64 0,.bool false,.bool false,.int .i64 0,.string ⟨#[]⟩,.int .i64 0,.int .i64 0,.bool false,.int .i64 0,.slice none 0 0,.int .i64 0,.int .u8 0,.int .u8 0,.int .i64 0,.int .i64 0,.int .i64 0,.bool false,.bool false,.int .i64 0,.string ⟨#[]⟩,.int .i64 0,.int .i64 0,.bool false,.int .i64 0,.slice none 0 0,.int .i64 0,.int .i64 0,.string ⟨#[]⟩,.slice none 0 0,.int .i64 0],.agg #[.int .u8 0,.int .i64 0,.int .i64 0,.int .i64 0,.int .i64 0,.bool false,.bool false,.int .i64 0,.int .i64 0,.slice none 0 0,.string ⟨#[]⟩,.int .i64 0,.int .i64 0,.bool false,.int .i64 0]] 8 rfl (World.shaped_of_RefB (by kernel_rfl) (by kernel_rfl)) (by kernel_rfl) (by kernel_rfl) (by kernel_rfl) (door_met os _)) ?_
 intro W base args ds gs before hval hW _ _ hL _;refine ZE (P:=Tryz.prog) (tb:=4) A4 laidOut (by kernel_rfl) (by kernel_rfl) (by kernel_rfl) Tryz.underlying4 rfl ?_ ?_ hval hW (WE hL)
 .intro H ds h
  match ds,h with
  |[d0,d1],_=>rfl
 .intro xs h;obtain⟨x0,r,rfl,h0,h⟩:=h;obtain⟨x1,r,rfl,h1,h⟩:=h;cases h;obtain⟨n0,rfl,k0⟩:=im h0;obtain⟨n1,rfl,k1,l1,b1⟩:=mP h1;exact Nd.Rt n0 n1 k0 b1
set_option maxRecDepth 100000 in
theorem MY:joinedFacts Tryz.pinned.checked.prog 5 Tryz.f5 Rows.nodeTwiceSpec Rows.nodeTwiceRow=true:=by
 unfold joinedFacts
 repeat'(with_reducible refine lD ?_ ?_)
 all_goals(as_aux_lemma=>kernel_rfl)
theorem IR:Tryz.prog.funcNamed "garland/garlandlaw24.NodeTwice" =some 5:=by kernel_rfl
theorem Pd:Rows.NodeTwiceSaid:=
 OpenClaim.holds_of_wide 5 Tryz.f5 rfl rfl rfl rfl rfl rfl rfl ⟨rfl,rfl,rfl,rfl,rfl⟩ rfl rfl rfl rfl rfl IR Tryz.func5 MY
  (of_decide_eq_true (by kernel_rfl)) (by unfold Func.isWrapper;first|(rw[if_pos (by decide +kernel)];kernel_rfl)|(rw[if_neg (by decide +kernel)];exact⟨rfl,rfl⟩))
  (fun os started H enc _=>MZ os started H enc)
end Go.Proofs.YtkljbfejbakooaaGreatDoor
