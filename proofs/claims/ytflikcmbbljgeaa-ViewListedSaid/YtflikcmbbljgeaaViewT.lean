/- Written by a program (pre.py) from the source of the same name. -/
/- Views: parameters of the laws. -/
import Derived.Test.YtflikcmbbljgeaaFwC
import Derived.Test.YtflikcmbbljgeaaRows
import Derived.Test.YtflikcmbbljgeaaView4
set_option linter.unusedSimpArgs false
set_option linter.unusedVariables false
set_option linter.unnecessarySimpa false
namespace Go.Proofs.Ytflikcmbbljgeaa
open Go.Gar

theorem own : ownKnob Try.prog.godebug = none := by kernel_rfl
theorem laidOut : laidOutB Try.prog = true := by kernel_rfl
theorem wf_i64 {n : Int} (h : (Lit.int .i64 n).wf = true) : i64 n := by
  simp [Lit.wf, IntKind.min, IntKind.max, IntKind.signed, IntKind.bits] at h
  unfold i64; omega
theorem maxLen_le {n : Nat} (h : n ≤ maxLen) : n ≤ 9223372036854775807 := h
theorem view_open {e : List D} (h : OkDs [.int .i64, .is, .is, .int .i64, .int .i64, .int .i64, .int .i64, .int .i64, .int .i64, .int .i64, .int .i64, .int .i64, .int .i64, .int .i64, .int .i64, .int .i64, .int .i64, .int .i64, .int .i64, .int .i64] e) : ∃ v : View, e = v.cells ∧ i64 v.id ∧ (∀ y ∈ v.base, i64 y) ∧ (∀ y ∈ v.list, i64 y) ∧ v.base.length ≤ 9223372036854775807 ∧ v.list.length ≤ 9223372036854775807 := by
  obtain ⟨_, _, rfl, ⟨id, rfl, hid⟩, h⟩ := h
  obtain ⟨_, _, rfl, ⟨base, rfl, lb, hb⟩, h⟩ := h
  obtain ⟨_, _, rfl, ⟨list, rfl, ll, hl⟩, h⟩ := h
  obtain ⟨_, _, rfl, ⟨pred, rfl, _⟩, h⟩ := h
  obtain ⟨_, _, rfl, ⟨n0, rfl, _⟩, h⟩ := h
  obtain ⟨_, _, rfl, ⟨n1, rfl, _⟩, h⟩ := h
  obtain ⟨_, _, rfl, ⟨n2, rfl, _⟩, h⟩ := h
  obtain ⟨_, _, rfl, ⟨n3, rfl, _⟩, h⟩ := h
  obtain ⟨_, _, rfl, ⟨n4, rfl, _⟩, h⟩ := h
  obtain ⟨_, _, rfl, ⟨n5, rfl, _⟩, h⟩ := h
  obtain ⟨_, _, rfl, ⟨n6, rfl, _⟩, h⟩ := h
  obtain ⟨_, _, rfl, ⟨n7, rfl, _⟩, h⟩ := h
  obtain ⟨_, _, rfl, ⟨n8, rfl, _⟩, h⟩ := h
  obtain ⟨_, _, rfl, ⟨n9, rfl, _⟩, h⟩ := h
  obtain ⟨_, _, rfl, ⟨n10, rfl, _⟩, h⟩ := h
  obtain ⟨_, _, rfl, ⟨n11, rfl, _⟩, h⟩ := h
  obtain ⟨_, _, rfl, ⟨n12, rfl, _⟩, h⟩ := h
  obtain ⟨_, _, rfl, ⟨n13, rfl, _⟩, h⟩ := h
  obtain ⟨_, _, rfl, ⟨n14, rfl, _⟩, h⟩ := h
  obtain ⟨_, _, rfl, ⟨n15, rfl, _⟩, h⟩ := h
  cases h
  exact ⟨⟨id, base, list, pred, fun i => [n0, n1, n2, n3, n4, n5, n6, n7, n8, n9, n10, n11, n12, n13, n14, n15].getD i 0⟩, rfl, wf_i64 hid, fun y hy => wf_i64 (hb y hy), fun y hy => wf_i64 (hl y hy), maxLen_le lb, maxLen_le ll⟩
theorem par43 {d : D} (h : okPar T.get 43 d) : ∃ v : View, d = v.d ∧ i64 v.id ∧ (∀ y ∈ v.base, i64 y) ∧ (∀ y ∈ v.list, i64 y) ∧ v.base.length ≤ 9223372036854775807 ∧ v.list.length ≤ 9223372036854775807 := by
  obtain ⟨l, rfl, h⟩ := h
  obtain ⟨v, rfl, hv⟩ := view_open h
  exact ⟨v, rfl, hv⟩
theorem par3 {d : D} (h : okPar T.get 3 d) : ∃ n, d = .i .i64 n ∧ i64 n := by
  obtain ⟨s, hs, h⟩ := h; cases hs
  obtain ⟨n, rfl, h⟩ := h
  exact ⟨n, rfl, wf_i64 h⟩
theorem par40 {d : D} (h : okPar T.get 40 d) : ∃ l, d = .is l ∧ ∀ y ∈ l, i64 y := by
  obtain ⟨s, hs, h⟩ := h; cases hs
  obtain ⟨l, rfl, _, h⟩ := h
  exact ⟨l, rfl, fun y hy => wf_i64 (h y hy)⟩

end Go.Proofs.Ytflikcmbbljgeaa
