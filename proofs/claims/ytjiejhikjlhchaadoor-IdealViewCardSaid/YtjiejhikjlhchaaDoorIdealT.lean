/- Written by a program (pre.py) from the source of the same name. -/
/- How a circle ought to be: parameters of the laws; what is laid. -/
import Derived.Test.YtjiejhikjlhchaaDoorFwC
import Derived.Test.YtjiejhikjlhchaaDoorRows
import Derived.Test.YtjiejhikjlhchaaDoorTie
import Derived.Test.YtjiejhikjlhchaaDoorCards
import Derived.Test.YtjiejhikjlhchaaDoorView4
import Derived.ProofKit
import Derived.LaidMore
import Derived.OpenShut
import Derived.Lib.LaidTab
import Derived.SevenTiedAt
import Derived.Stop.Joined
set_option linter.unusedSimpArgs false
set_option linter.unusedVariables false
set_option linter.unnecessarySimpa false
namespace Go.Proofs.YtjiejhikjlhchaaDoor
open Go Go.Gar Go.RowKit

theorem own : ownKnob Tryd.prog.godebug = none := by kernel_rfl
theorem laidOut : laidOutB Tryd.prog = true := by kernel_rfl
theorem wf_i64 {n : Int} (h : (Lit.int .i64 n).wf = true) : i64 n := by
  simp [Lit.wf, IntKind.min, IntKind.max, IntKind.signed, IntKind.bits] at h
  unfold i64; omega
theorem maxLen_le {n : Nat} (h : n ≤ maxLen) : n ≤ 9223372036854775807 := h
theorem view_open {e : List D} (h : OkDs [.int .i64, .is, .is, .int .i64, .int .i64, .int .i64, .int .i64, .int .i64, .int .i64, .int .i64, .int .i64, .int .i64, .int .i64, .int .i64, .int .i64, .int .i64, .int .i64, .int .i64, .int .i64, .int .i64] e) : ∃ v : View, e = v.cells ∧ i64 v.id ∧ (∀ y ∈ v.base, i64 y) ∧ (∀ y ∈ v.list, i64 y) ∧ v.base.length ≤ 9223372036854775807 ∧ v.list.length ≤ 9223372036854775807 := by
  obtain ⟨_, _, rfl, ⟨id, rfl, hid⟩, h⟩ := h
  obtain ⟨_, _, rfl, ⟨base, rfl, lb, hb⟩, h⟩ := h
  obtain ⟨_, _, rfl, ⟨list, rfl, ll, hl⟩, h⟩ := h
  obtain ⟨_, _, rfl, ⟨pred, rfl, _⟩, h⟩ := h
  obtain ⟨_, _, rfl, ⟨n0, rfl, _⟩, h⟩ := h
  obtain ⟨_, _, rfl, ⟨n1, rfl, _⟩, h⟩ := h
  obtain ⟨_, _, rfl, ⟨n2, rfl, _⟩, h⟩ := h
  obtain ⟨_, _, rfl, ⟨n3, rfl, _⟩, h⟩ := h
  obtain ⟨_, _, rfl, ⟨n4, rfl, _⟩, h⟩ := h
  obtain ⟨_, _, rfl, ⟨n5, rfl, _⟩, h⟩ := h
  obtain ⟨_, _, rfl, ⟨n6, rfl, _⟩, h⟩ := h
  obtain ⟨_, _, rfl, ⟨n7, rfl, _⟩, h⟩ := h
  obtain ⟨_, _, rfl, ⟨n8, rfl, _⟩, h⟩ := h
  obtain ⟨_, _, rfl, ⟨n9, rfl, _⟩, h⟩ := h
  obtain ⟨_, _, rfl, ⟨n10, rfl, _⟩, h⟩ := h
  obtain ⟨_, _, rfl, ⟨n11, rfl, _⟩, h⟩ := h
  obtain ⟨_, _, rfl, ⟨n12, rfl, _⟩, h⟩ := h
  obtain ⟨_, _, rfl, ⟨n13, rfl, _⟩, h⟩ := h
  obtain ⟨_, _, rfl, ⟨n14, rfl, _⟩, h⟩ := h
  obtain ⟨_, _, rfl, ⟨n15, rfl, _⟩, h⟩ := h
  cases h
  exact ⟨⟨id, base, list, pred, fun i => [n0, n1, n2, n3, n4, n5, n6, n7, n8, n9, n10, n11, n12, n13, n14, n15].getD i 0⟩, rfl, wf_i64 hid, fun y hy => wf_i64 (hb y hy), fun y hy => wf_i64 (hl y hy), maxLen_le lb, maxLen_le ll⟩
theorem par25 {d : D} (h : okPar T.get 25 d) : ∃ v : View, d = v.d ∧ i64 v.id ∧ (∀ y ∈ v.base, i64 y) ∧ (∀ y ∈ v.list, i64 y) ∧ v.base.length ≤ 9223372036854775807 ∧ v.list.length ≤ 9223372036854775807 := by
  obtain ⟨l, rfl, h⟩ := h
  obtain ⟨v, rfl, hv⟩ := view_open h
  exact ⟨v, rfl, hv⟩
theorem par3 {d : D} (h : okPar T.get 3 d) : ∃ n, d = .i .i64 n ∧ i64 n := by
  obtain ⟨s, hs, h⟩ := h; cases hs
  obtain ⟨n, rfl, h⟩ := h
  exact ⟨n, rfl, wf_i64 h⟩
theorem par22 {d : D} (h : okPar T.get 22 d) : ∃ l, d = .is l ∧ l.length ≤ 9223372036854775807 ∧ ∀ y ∈ l, i64 y := by
  obtain ⟨s, hs, h⟩ := h; cases hs
  obtain ⟨l, rfl, hl, h⟩ := h
  exact ⟨l, rfl, maxLen_le hl, fun y hy => wf_i64 (h y hy)⟩

theorem gStarts : Tryd.prog.globalNamed "garland/arc.starts" = some 0 := by kernel_rfl
theorem tStarts : (Tryd.prog.globals[0]?).map (·.type) = some 23 := by kernel_rfl
abbrev startsL : List Int := [1, 2, 4, 8, 16, 32, 64, 128, 256, 512, 1024, 2048, 4096, 8192, 16384, 32768]
abbrev laidS : List (String × DataW Unit) := [("garland/arc.starts", Rows.laid_garland_arc_starts)]
/-- What is laid is what stays. -/
theorem statics_of {W : World} (h : laidMetH Tryd.prog laidS W) : SOK (memOf W) := by
  rw [MakeChecks.laidMetH_plain _ _ _ (by kernel_rfl)] at h
  have hT : Lib.TabIs Tryd.prog W "garland/arc.starts" .i64 startsL := Lib.tabIs_of_head gStarts tStarts Tryd.underlying23 Tryd.underlying3 (by kernel_rfl) (by kernel_rfl) h
  intro b k v hv
  unfold statics at hv
  split at hv
  · rename_i hb
    subst hb
    have hk : k < 16 := by
      have := (List.getElem?_eq_some_iff.1 hv).1
      simpa using this
    have := hT.cell gStarts k hk
    show W.cell? ⟨0, k, none⟩ = some v
    rw [this]
    rw [List.getElem?_map] at hv
    rw [List.getD_eq_getElem?_getD]
    obtain ⟨z, h1, rfl⟩ := Option.map_eq_some_iff.1 hv
    rw [h1]; rfl
  · cases hv
theorem door_met (os : Os) (args : Array Value) : laidMetH Tryd.prog laidS ((World.doorLaid Tryd.prog 14 os).forCall (fun _ _ => 0) ⟨#[], args, []⟩).memory :=
  laidMetH_of_parts3 (fuel := 8) (laidMet_of_run' 8 (by kernel_rfl) (by kernel_rfl)) (by kernel_rfl) (by kernel_rfl)

end Go.Proofs.YtjiejhikjlhchaaDoor
