/- Part 50 of a proof. Conditions: those that its theorems state. -/
import Derived.Test.YtamjpnmjpponpaaGreatDoorC49
set_option linter.unusedSimpArgs false
set_option linter.unusedVariables false
set_option linter.unnecessarySimpa false
set_option maxHeartbeats 40000000
set_option maxRecDepth 4000
namespace Go.Proofs.YtamjpnmjpponpaaGreatDoor
open Go Go.Gar Go.RowKit
theorem Ov:false=Rows.circleRightRow.goesBy Tryz.pinned.checked.prog:=by
 unfold OpenClaim.goesBy Program.goesAt;rw[U8 SD];rfl
theorem circleRight_holds:Rows.CircleRightCardSaid:=
 Claim7.holds_tied_plain_at .later [] [.data, .data, .data] true (true, "311e6ac8bf2cf305d71e6d331ab29d2c4c8e563f7c3b7dbdf4bb13278a7bc4e7") true
  QD (fun _ h=>by cases h) (by as_aux_lemma=>kernel_rfl) (fun _ h=>by cases h) circleRight_row_tie rfl ⟨rfl,rfl⟩ (by as_aux_lemma=>kernel_rfl) rfl
  (fun f fn hf hfn=>by
   obtain rfl:f=3:=q1E (IU.symm.trans hf) |>.symm;obtain rfl:fn=Tryz.f3:=(q1E (Tryz.func3.symm.trans hfn)).symm
   exact⟨by as_aux_lemma=>kernel_rfl,fun j t ht=>by
    rw[Tryz.params3]at ht
    have hm:t∈[22,23]:=by
     have:=Array.mem_of_getElem? ht;simp at this;simp
     first|omega|grind
    have hall:([22,23].all fun u=> !Tryz.prog.wantsStandIn u)=true:=by as_aux_lemma=>kernel_rfl
    exact(show Tryz.prog.wantsStandIn t=false by simpa using q0T.1 hall t hm)⟩)
  Ov
end Go.Proofs.YtamjpnmjpponpaaGreatDoor
