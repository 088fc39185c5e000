/- Written by a program (pre.py) from the source of the same name. -/
/- Datagrams: parameters of the laws. -/
import Derived.Test.YtbpemnmpcljbpaaGreatFwC
import Derived.Test.YtbpemnmpcljbpaaGreatRows
import Derived.Test.YtbpemnmpcljbpaaGreatWireB
set_option linter.unusedSimpArgs false
set_option linter.unusedVariables false
set_option linter.unnecessarySimpa false
namespace Go.Proofs.YtbpemnmpcljbpaaGreat
open Go.Gar

theorem own : ownKnob Tryz.prog.godebug = none := by kernel_rfl
theorem laidOut : laidOutB Tryz.prog = true := by kernel_rfl
theorem msg_open {e : List D} (h : OkDs [.int .u8, .int .i64, .int .i64, .int .i64, .int .i64, .bool, .bool, .int .i64, .int .i64, .is, .str, .int .i64, .int .i64, .bool, .int .i64] e) : ∃ m : Wi.Msg, e = m.cells := by
  obtain ⟨_, _, rfl, ⟨c0, rfl, _⟩, h⟩ := h
  obtain ⟨_, _, rfl, ⟨c1, rfl, _⟩, h⟩ := h
  obtain ⟨_, _, rfl, ⟨c2, rfl, _⟩, h⟩ := h
  obtain ⟨_, _, rfl, ⟨c3, rfl, _⟩, h⟩ := h
  obtain ⟨_, _, rfl, ⟨c4, rfl, _⟩, h⟩ := h
  obtain ⟨_, _, rfl, ⟨c5, rfl⟩, h⟩ := h
  obtain ⟨_, _, rfl, ⟨c6, rfl⟩, h⟩ := h
  obtain ⟨_, _, rfl, ⟨c7, rfl, _⟩, h⟩ := h
  obtain ⟨_, _, rfl, ⟨c8, rfl, _⟩, h⟩ := h
  obtain ⟨_, _, rfl, ⟨c9, rfl, _⟩, h⟩ := h
  obtain ⟨_, _, rfl, ⟨c10, rfl, _⟩, h⟩ := h
  obtain ⟨_, _, rfl, ⟨c11, rfl, _⟩, h⟩ := h
  obtain ⟨_, _, rfl, ⟨c12, rfl, _⟩, h⟩ := h
  obtain ⟨_, _, rfl, ⟨c13, rfl⟩, h⟩ := h
  obtain ⟨_, _, rfl, ⟨c14, rfl, _⟩, h⟩ := h
  cases h
  exact ⟨⟨c0, c1, c2, c3, c4, c5, c6, c7, c8, c9, ⟨c10, c11, c12, c13⟩, c14⟩, rfl⟩
theorem parMsg {d : D} (h : okPar T.get 27 d) : ∃ m : Wi.Msg, d = m.d ∧ True := by
  obtain ⟨l, rfl, h⟩ := h
  obtain ⟨m, rfl⟩ := msg_open h
  exact ⟨m, rfl, trivial⟩
theorem parBy {d : D} (h : okPar T.get 28 d) : ∃ l, d = .by l ∧ True := by
  obtain ⟨s, hs, h⟩ := h; cases hs
  obtain ⟨l, rfl, _⟩ := h
  exact ⟨l, rfl, trivial⟩

end Go.Proofs.YtbpemnmpcljbpaaGreat
