/- Part 48 of a proof. Conditions: those that its theorems state. -/
import Derived.Test.YtkljbfejbakooaaGreatDoorT46
import Derived.Test.YtkljbfejbakooaaGreatDoorT47
set_option linter.unusedSimpArgs false
set_option linter.unusedVariables false
set_option maxHeartbeats 40000000
set_option maxRecDepth 4000
namespace Go.Proofs.YtkljbfejbakooaaGreatDoor
open Go Go.Gar Go.RowKit
set_option maxRecDepth 100000 in
theorem P0(os:Os)(started:os.Started)(H:Type)(enc:TypeId×Value->H):
  ReturnsInHanded {} Tryz.checked os 6 .any (fun w args=>(Rows.nodeSkipsSpec.pre enc Tryz.prog Tryz.f6 [] false w args/\laidMetH Tryz.prog Ky w)/\sizedMet enc Tryz.prog Tryz.f6 (OpenSpec.ofChange Rows.nodeSkipsSpec) false w args) (Rows.nodeSkipsSpec.post enc Tryz.prog Tryz.f6 false true false false):=by
 refine returnsInHanded_of_change_and (C:=Tryz.checked) (X:=fun w _=>laidMetH Tryz.prog Ky w) (fun _ _ _ hh h=>h.of_heap hh) own started (by kernel_rfl) Tryz.func6
  (ChangeSpec.witness_shaped (enc:=enc) (C:=Tryz.checked) (os:=os) (X:=fun w _=>laidMetH Tryz.prog Ky w) false (World.doorLaid Tryz.prog 27 os) #[.agg #[.int .i64 0,.slice none 0 0,.slice none 0 0,.int .i64 0,.int .i64 0,.int .i64 0,.int .i64 0,.int .i64 0,.int .i64 0,.int .i64 0,.int .i64 0,.int .i64 0,.int .i64 0,.int .i64 0,.int .i64 0,.int .i64 0,.int .i64 0,.int .i64 0,.int .i64 0,.int .i64 0,.int .i64 0,.int .i64 0,.int .i64 0,.slice none 0 0,.slice none 0 0,.int .u8 0,.int .i64 0,.int .u8 0,.int .u8 0,.int .i64 0,.int .i64 0,.int .i64 0,.bool false,.bool false,.int .i64 0,.string ⟨#[]⟩,.int .i64 0,.int .i64 0,.bool false,.int .i64 0,.slice none 0 0,.int .i64 0,.int .u8 0,.int .u8 0,.int .i64 0,.int .i64 0,.int .i64 0,.bool false,.bool false,.int .i64 0,.string ⟨#[]⟩,.int .i64 0,.int .i64 0,.bool false,.int .i64 0,.slice none 0 0,.int .i64 0,.int .u8 0,.int .u8 0,.int .i64 0,.int .i64 0,.int .i64 0,.bool false,.bool false,.int .i64 0,.string ⟨#[]⟩,.int .i64 0,.int .i64 0,.bool false,.int .i64 0,.slice none 0 0,.int .i64 0,.int .i64 0,.string ⟨#[]⟩,.slice none 0 0,.int .i64 0],.agg #[.int .u8 0,.int .i64 0,.int .i64 0,.int .i64 0,.int .i64 0,.bool false,.bool false,.int .i64 0,.int .i64 0,.slice none 0 0,.string ⟨#[]⟩,.int .i64 0,.int .i64 0,.bool false,.int .i64 0]] 8 rfl (World.shaped_of_RefB (by kernel_rfl) (by kernel_rfl)) (by kernel_rfl) (by kernel_rfl) (by kernel_rfl) (door_met os _)) ?_
 intro W AB args ds gs before hval hW _ _ hL _;refine To (P:=Tryz.prog) (tb:=4) AF laidOut (by kernel_rfl) (by kernel_rfl) (by kernel_rfl) Tryz.underlying4 rfl ?_ ?_ hval hW (Sv hL)
 .intro H ds h
  match ds,h with
  |[d0,d1],_=>rfl
 .intro xs h;obtain⟨x0,r,rfl,h0,h⟩:=h;obtain⟨x1,r,rfl,h1,h⟩:=h;cases h;obtain⟨n0,rfl,k0⟩:=cj h0;obtain⟨n1,rfl,k1,l1,b1⟩:=tT h1;exact Nd.VR n0 n1 k0 b1 k1 l1
set_option maxRecDepth 100000 in
theorem Oz:joinedFacts Tryz.pinned.checked.prog 6 Tryz.f6 Rows.nodeSkipsSpec Rows.nodeSkipsRow=true:=by
 unfold joinedFacts
 repeat'(with_reducible refine it ?_ ?_)
 all_goals(as_aux_lemma=>kernel_rfl)
theorem KG:Tryz.prog.funcNamed "garland/garlandlaw24.NodeSkips" =some 6:=by kernel_rfl
theorem T9:Rows.NodeSkipsSaid:=
 OpenClaim.holds_of_wide 6 Tryz.f6 rfl rfl rfl rfl rfl rfl rfl ⟨rfl,rfl,rfl,rfl,rfl⟩ rfl rfl rfl rfl rfl KG Tryz.func6 Oz
  (of_decide_eq_true (by kernel_rfl)) (by unfold Func.isWrapper;first|(rw[if_pos (by decide +kernel)];kernel_rfl)|(rw[if_neg (by decide +kernel)];exact⟨rfl,rfl⟩))
  (fun os started H enc _=>P0 os started H enc)
end Go.Proofs.YtkljbfejbakooaaGreatDoor
