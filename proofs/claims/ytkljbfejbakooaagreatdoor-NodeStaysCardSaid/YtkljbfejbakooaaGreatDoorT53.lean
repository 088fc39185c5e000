/- Part 53 of a proof. Conditions: those that its theorems state. -/
import Derived.Test.YtkljbfejbakooaaGreatDoorT52
set_option linter.unusedSimpArgs false
set_option linter.unusedVariables false
set_option linter.unnecessarySimpa false
set_option maxHeartbeats 40000000
set_option maxRecDepth 4000
namespace Go.Proofs.YtkljbfejbakooaaGreatDoor
open Go Go.Gar Go.RowKit
theorem nodeStays_holds:Rows.NodeStaysCardSaid:=
 Claim7.holds_tied_plain_at .later [] [.data, .data, .data] true (true, "a68599acc282768e6e8f77e0f7fd9046a176a9a73dd694364f45cf2936ceb864") true
  TA (fun _ h=>by cases h) (by kernel_rfl) (fun _ h=>by cases h) nodeStays_row_tie rfl ⟨rfl,rfl⟩ (by kernel_rfl) rfl
  (fun f fn hf hfn=>by
   obtain rfl:f=3:=q0A (KH.symm.trans hf) |>.symm;obtain rfl:fn=Tryz.f3:=(q0A (Tryz.func3.symm.trans hfn)).symm
   exact⟨by kernel_rfl,fun j t ht=>by
    rw[Tryz.params3]at ht
    have hm:t∈[41,42,5,36]:=by
     have:=Array.mem_of_getElem? ht;simp at this;simp
     first|omega|grind
    have hall:([41,42,5,36].all fun u=> !Tryz.prog.wantsStandIn u)=true:=by kernel_rfl
    exact(show Tryz.prog.wantsStandIn t=false by simpa using yc.1 hall t hm)⟩)
  (by kernel_rfl)
end Go.Proofs.YtkljbfejbakooaaGreatDoor
