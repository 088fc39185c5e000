/- Written by a program (pre.py) from the source of the same name. -/
/- The law IdealView, as its row and its card state it: every input; true; the input reads as it did. Conditions: the package-level variable arc.starts holds what the program's text lays (the card ties it). -/
import Derived.Test.YtjiejhikjlhchaaDoorIdealT
import Derived.Test.YtjiejhikjlhchaaDoorIdealR
set_option linter.unusedSimpArgs false
set_option linter.unusedVariables false
set_option linter.unnecessarySimpa false
namespace Go.Proofs.YtjiejhikjlhchaaDoor
open Go Go.Gar Go.RowKit

set_option maxRecDepth 100000 in
theorem idealView_lifted (os : Os) (started : os.Started) (H : Type) (enc : TypeId × Value → H) :
    ReturnsInHanded {} Tryd.checked os 6 .any (fun w args => (Rows.idealViewSpec.pre enc Tryd.prog Tryd.f6 [] false w args ∧ laidMetH Tryd.prog laidS w) ∧ sizedMet enc Tryd.prog Tryd.f6 (OpenSpec.ofChange Rows.idealViewSpec) false w args) (Rows.idealViewSpec.post enc Tryd.prog Tryd.f6 false true false false) := by
  refine returnsInHanded_of_change_and (C := Tryd.checked) (X := fun w _ => laidMetH Tryd.prog laidS w) (fun _ _ _ hh h => h.of_heap hh) own started (by kernel_rfl) Tryd.func6
    (ChangeSpec.witness_shaped (enc := enc) (C := Tryd.checked) (os := os) (X := fun w _ => laidMetH Tryd.prog laidS w) false (World.doorLaid Tryd.prog 14 os) #[.slice none 0 0, .slice none 0 0, .int .i64 0, .int .i64 0, .int .i64 0] 8 rfl (World.shaped_of_RefB (by kernel_rfl) (by kernel_rfl)) (by kernel_rfl) (by kernel_rfl) (by kernel_rfl) (door_met os _)) ?_
  intro W base args ds gs before hval hW _ _ hL _
  refine law_calls (P := Tryd.prog) (tb := 4) eok laidOut (by kernel_rfl) (by kernel_rfl) (by kernel_rfl) Tryd.underlying4 rfl ?_ ?_ hval hW (statics_of hL)
  · intro H ds h
    match ds, h with
    | [d0, d1, d2, d3, d4], _ => rfl
  · intro xs h
    obtain ⟨x0, r, rfl, h0, h⟩ := h
    obtain ⟨x1, r, rfl, h1, h⟩ := h
    obtain ⟨x2, r, rfl, h2, h⟩ := h
    obtain ⟨x3, r, rfl, h3, h⟩ := h
    obtain ⟨x4, r, rfl, h4, h⟩ := h
    cases h
    obtain ⟨n0, rfl, ln0, k0⟩ := par22 h0
    obtain ⟨n1, rfl, ln1, k1⟩ := par22 h1
    obtain ⟨n2, rfl, k2⟩ := par3 h2
    obtain ⟨n3, rfl, k3⟩ := par3 h3
    obtain ⟨n4, rfl, k4⟩ := par3 h4
    exact idealView_fn n0 n1 n2 n3 n4 ln0 ln1 k2 k3 k4
theorem idealView_row : Rows.IdealViewSaid :=
  OpenClaim.holds_of_wide 6 Tryd.f6 rfl rfl rfl rfl rfl rfl rfl ⟨rfl, rfl, rfl, rfl, rfl⟩ rfl rfl rfl rfl rfl (by kernel_rfl) Tryd.func6 (by kernel_rfl)
    (of_decide_eq_true (by kernel_rfl)) (by unfold Func.isWrapper; first | (rw [if_pos (by decide +kernel)]; kernel_rfl) | (rw [if_neg (by decide +kernel)]; exact ⟨rfl, rfl⟩))
    (fun os started H enc _ => idealView_lifted os started H enc)
theorem idealView_holds : Rows.IdealViewCardSaid :=
  Claim7.holds_tied_plain_at .later [] [.data] true (true, "5cf378d4bf3b7018d628b34f3d8eb65487fb22262a0bf492e251f752f4865402") false
    idealView_row (fun _ h => by cases h) (by kernel_rfl) (fun _ h => by cases h) idealView_row_tie rfl ⟨rfl, rfl⟩ (by kernel_rfl) rfl
    (fun f fn hf hfn => by
      obtain rfl : f = 6 := Option.some.inj ((show Tryd.prog.funcNamed "garland/garlandlaw26.IdealView" = some 6 by kernel_rfl).symm.trans hf) |>.symm
      obtain rfl : fn = Tryd.f6 := (Option.some.inj (Tryd.func6.symm.trans hfn)).symm
      exact ⟨by kernel_rfl, fun j t ht => by
        rw [Tryd.params6] at ht
        have hm : t ∈ [22, 22, 3, 3, 3] := by simpa using Array.mem_of_getElem? ht
        have hall : ([22, 22, 3, 3, 3].all fun u => !Tryd.prog.wantsStandIn u) = true := by kernel_rfl
        exact (show Tryd.prog.wantsStandIn t = false by simpa using List.all_eq_true.1 hall t hm)⟩)
    (by kernel_rfl)

end Go.Proofs.YtjiejhikjlhchaaDoor
