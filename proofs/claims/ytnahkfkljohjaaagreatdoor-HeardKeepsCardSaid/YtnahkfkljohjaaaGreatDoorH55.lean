/- Part 55 of the texts of this proof, put together by a program and made short.
Conditions: none; what each theorem asks stands in its own hypotheses. -/
import Derived.Test.YtnahkfkljohjaaaGreatDoorH52
import Derived.Test.YtnahkfkljohjaaaGreatDoorH54
import Derived.Ground.SlgfProg
import Derived.LaidMore
import Derived.Lib.LaidTab
import Derived.Lib.LaidU8
import Derived.Lib.SliceRun
import Derived.OpenShut
import Derived.ProofKit
import Derived.SevenTiedAt
import Derived.Shelf.SlicesE.DeleteFunc
import Derived.Sort.Walk0
import Derived.Stop.Joined
import Derived.KernelRfl
import Derived.RangeFuncIn
import Derived.CallsIn
import Derived.RangeFuncLeaves
import Derived.OrdersIn
import Derived.TacticsIn
import Derived.ChangeKeysEq
import Derived.Laws.AppendOwn
import Derived.Laws.OwnMore
import Derived.Laws.MakeOwn
import Derived.Laws.Rows
import Derived.Laws.Cells
import Derived.Laws.Tables
import Derived.Laws.CopyRow
import Derived.Laws.Strings
import Derived.Laws.IdiomStrings
import Derived.Laws.BytesArg
import Derived.Sort.Grow
import Derived.Laws.Cover3
import Derived.RecoverIn
import Derived.Test.YtnahkfkljohjaaaGreatDoorProg
import Derived.Test.YtnahkfkljohjaaaGreatDoorTie
import Derived.Test.YtnahkfkljohjaaaGreatDoorCards
set_option linter.unusedSimpArgs false
set_option linter.unusedVariables false
set_option linter.unnecessarySimpa false
set_option maxHeartbeats 40000000
namespace Go.Proofs.YtnahkfkljohjaaaGreatDoor
open Go Go.Gar Go.RowKit
set_option maxRecDepth 100000 in
theorem If (os : Os) (started : os.Started) (H : Type) (enc : TypeId × Value → H) :
  ReturnsInHanded {} Tryz.checked os 4 .any (fun w args => (Rows.heardKeepsSpec.pre enc Tryz.prog Tryz.f4 [] false w args ∧ laidMetH Tryz.prog EJ w) ∧ sizedMet enc Tryz.prog Tryz.f4 (OpenSpec.ofChange Rows.heardKeepsSpec) false w args) (Rows.heardKeepsSpec.post enc Tryz.prog Tryz.f4 false true false false):=by
 refine returnsInHanded_of_change_and (C:=Tryz.checked) (X:=fun w _ => laidMetH Tryz.prog EJ w) (fun _ _ _ hh h => h.of_heap hh) own started (by kernel_rfl) Tryz.func4
  (ChangeSpec.witness_shaped (enc:=enc) (C:=Tryz.checked) (os:=os) (X:=fun w _ => laidMetH Tryz.prog EJ w) false (World.doorLaid Tryz.prog 22 os) #[.agg #[.int .i64 0,.slice none 0 0,.slice none 0 0,.int .i64 0,.int .i64 0,.int .i64 0,.int .i64 0,.int .i64 0,.int .i64 0,.int .i64 0,.int .i64 0,.int .i64 0,.int .i64 0,.int .i64 0,.int .i64 0,.int .i64 0,.int .i64 0,.int .i64 0,.int .i64 0,.int .i64 0,.int .i64 0,.int .i64 0,.int .i64 0,.slice none 0 0,.slice none 0 0,.int .u8 0,.int .i64 0,.int .u8 0,.int .u8 0,.int .i64 0,.int .i64 0,.int .i64 0,.bool false,.bool false,.int .i64 0,.string ⟨#[]⟩,.int .i64 0,.int .i64 0,.bool false,.int .i64 0,.slice none 0 0,.int .i64 0,.int .u8 0,.int .u8 0,.int .i64 0,.int .i64 0,.int .i64 0,.bool false,.bool false,.int .i64 0,.string ⟨#[]⟩,.int .i64 0,.int .i64 0,.bool false,.int .i64 0,.slice none 0 0,.int .i64 0,.int .u8 0,.int .u8 0,.int .i64 0,.int .i64 0,.int .i64 0,.bool false,.bool false,.int .i64 0,.string ⟨#[]⟩,.int .i64 0,.int .i64 0,.bool false,.int .i64 0,.slice none 0 0,.int .i64 0,.int .i64 0,.string ⟨#[]⟩,.slice none 0 0,.int .i64 0],.int .u8 0,.int .u8 0,.int .i64 0,.agg #[.string ⟨#[]⟩,.int .i64 0,.int .i64 0,.bool false],.agg #[.int .i64 0,.int .u8 0,.int .i64 0,.int .i64 0,.int .i64 0,.int .i64 0,.bool false,.bool false,.int .i64 0,.int .i64 0,.slice none 0 0,.string ⟨#[]⟩,.int .i64 0,.int .i64 0,.bool false,.int .i64 0,.int .u8 0,.int .i64 0,.int .i64 0,.int .i64 0],.agg #[.int .u8 0,.int .i64 0,.int .i64 0,.int .i64 0,.int .i64 0,.bool false,.bool false,.int .i64 0,.int .i64 0,.slice none 0 0,.string ⟨#[]⟩,.int .i64 0,.int .i64 0,.bool false,.int .i64 0]] 8 rfl (World.shaped_of_RefB (by kernel_rfl) (by kernel_rfl)) (by kernel_rfl) (by kernel_rfl) (by kernel_rfl) (door_met os _)) ?_
 intro W base args ds gs before hval hW _ _ hL _
 refine HA (P:=Tryz.prog) (tb:=4) AB laidOut (by kernel_rfl) (by kernel_rfl) (by kernel_rfl) Tryz.underlying4 rfl ?_ ?_ hval hW (G8 hL)
 ·intro H ds h
  match ds,h with
  | [d0,d1,d2,d3,d4,d5,d6],_ => rfl
 ·intro xs h
  obtain ⟨x0,r,rfl,h0,h⟩:=h
  obtain ⟨x1,r,rfl,h1,h⟩:=h
  obtain ⟨x2,r,rfl,h2,h⟩:=h
  obtain ⟨x3,r,rfl,h3,h⟩:=h
  obtain ⟨x4,r,rfl,h4,h⟩:=h
  obtain ⟨x5,r,rfl,h5,h⟩:=h
  obtain ⟨x6,r,rfl,h6,h⟩:=h
  cases h
  obtain ⟨n0,rfl,k0⟩:=Jo h0
  obtain ⟨n1,rfl⟩:=S5 h1
  obtain ⟨n2,rfl⟩:=S5 h2
  obtain ⟨n3,rfl⟩:=Qm h3
  obtain ⟨n4,rfl⟩:=R9 h4
  obtain ⟨n5,rfl⟩:=Mb h5
  obtain ⟨n6,rfl,k6,l6⟩:=NO h6
  exact Nd.Ll n0 n1 n2 n3 n4 n5 n6 k0
set_option maxRecDepth 100000 in
theorem I6 : joinedFacts Tryz.pinned.checked.prog 4 Tryz.f4 Rows.heardKeepsSpec Rows.heardKeepsRow = true:=by
 unfold joinedFacts
 repeat' (with_reducible refine Nu ?_ ?_)
 all_goals (as_aux_lemma => kernel_rfl)
theorem KC : Rows.HeardKeepsSaid :=
 OpenClaim.holds_of_wide 4 Tryz.f4 rfl rfl rfl rfl rfl rfl rfl ⟨rfl,rfl,rfl,rfl,rfl⟩ rfl rfl rfl rfl rfl (by kernel_rfl) Tryz.func4 I6
  (of_decide_eq_true (by kernel_rfl)) (by unfold Func.isWrapper;first | (rw [if_pos (by decide +kernel)];kernel_rfl) | (rw [if_neg (by decide +kernel)];exact ⟨rfl,rfl⟩))
  (fun os started H enc _ => If os started H enc)
theorem heardKeeps_holds : Rows.HeardKeepsCardSaid :=
 Claim7.holds_tied_plain_at .later [] [.data, .data] true (true, "6c833bab352f2642f8557750716600bc71f12151d392884a94b2f3db1e47b16e") false
  KC (fun _ h => by cases h) (by kernel_rfl) (fun _ h => by cases h) heardKeeps_row_tie rfl ⟨rfl,rfl⟩ (by kernel_rfl) rfl
  (fun f fn hf hfn => by
   obtain rfl : f = 4 := Option.some.inj ((show Tryz.prog.funcNamed "garland/garlandlaw23.HeardKeeps" = some 4 by kernel_rfl).symm.trans hf) |>.symm
   obtain rfl : fn = Tryz.f4:=(Option.some.inj (Tryz.func4.symm.trans hfn)).symm
   exact ⟨by kernel_rfl,fun j t ht => by
    rw [Tryz.params4] at ht
    have hm : t ∈ [41,5,3,36,45,43]:=by
     have:=Array.mem_of_getElem? ht
     simp at this
     simp
     first | omega | grind
    have hall : ([41,5,3,36,45,43].all fun u => !Tryz.prog.wantsStandIn u) = true:=by kernel_rfl
    exact (show Tryz.prog.wantsStandIn t = false by simpa using List.all_eq_true.1 hall t hm)⟩)
  (by kernel_rfl)
end Go.Proofs.YtnahkfkljohjaaaGreatDoor
