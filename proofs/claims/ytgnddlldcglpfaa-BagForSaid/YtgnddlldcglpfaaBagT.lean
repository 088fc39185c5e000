/- Written by a program (pre.py) from the source of the same name. -/
/- Bags: parameters of the laws; the law BagFor, as its row states it: every input; true; the input reads as it did. -/
import Derived.Test.YtgnddlldcglpfaaFwC
import Derived.Test.YtgnddlldcglpfaaRows
import Derived.Test.YtgnddlldcglpfaaBagF
set_option linter.unusedSimpArgs false
set_option linter.unusedVariables false
set_option linter.unnecessarySimpa false
namespace Go.Proofs.Ytgnddlldcglpfaa
open Go.Gar

theorem par3 {d : D} (h : okPar T.get 3 d) : ∃ n, d = .i .i64 n ∧ (Lit.int .i64 n).wf = true := by
  obtain ⟨s, hs, h⟩ := h; cases hs; exact h
theorem own : ownKnob Try.prog.godebug = none := by kernel_rfl
theorem laidOut : laidOutB Try.prog = true := by kernel_rfl
theorem map_open {α : Type} {f : α → List D} {es : List (List D)} (h : ∀ e ∈ es, ∃ a, e = f a) : ∃ l : List α, es = l.map f := by
  induction es with
  | nil => exact ⟨[], rfl⟩
  | cons e r ih =>
    obtain ⟨a, rfl⟩ := h e (by simp)
    obtain ⟨l, rfl⟩ := ih fun x hx => h x (by simp [hx])
    exact ⟨a :: l, rfl⟩
theorem gram_open {e : List D} (h : OkDs [.int .i64, .by, .bool] e) : ∃ g : Gram, e = g.cells := by
  obtain ⟨_, _, rfl, ⟨n, rfl, _⟩, h⟩ := h
  obtain ⟨_, _, rfl, ⟨y, rfl, _⟩, h⟩ := h
  obtain ⟨_, _, rfl, ⟨b, rfl⟩, h⟩ := h
  cases h
  exact ⟨⟨n, y, b⟩, rfl⟩
theorem grams_open {d : D} (h : OkD (.sl [.int .i64, .by, .bool]) d) : ∃ l : List Gram, d = gramsD l := by
  obtain ⟨es, rfl, _, h⟩ := h
  obtain ⟨l, rfl⟩ := map_open (f := Gram.cells) fun e he => gram_open (h e he)
  exact ⟨l, rfl⟩
theorem par22 {d : D} (h : okPar T.get 22 d) : ∃ l : List Gram, d = gramsD l := by
  obtain ⟨s, hs, h⟩ := h; cases hs; exact grams_open h
theorem par29 {d : D} (h : okPar T.get 29 d) : ∃ g : Gram, d = g.d := by
  obtain ⟨l, rfl, h⟩ := h
  obtain ⟨g, rfl⟩ := gram_open h
  exact ⟨g, rfl⟩
theorem par24 {d : D} (h : okPar T.get 24 d) : ∃ b : Bag, d = b.d := by
  obtain ⟨l, rfl, h⟩ := h
  obtain ⟨_, _, rfl, h1, h⟩ := h
  obtain ⟨_, _, rfl, ⟨n, rfl, _⟩, h⟩ := h
  cases h
  obtain ⟨l, rfl⟩ := grams_open h1
  exact ⟨⟨l, n⟩, rfl⟩

set_option maxRecDepth 100000 in
theorem bagFor_lifted (os : Os) (started : os.Started) (H : Type) (enc : TypeId × Value → H) :
    ReturnsInHanded {} Try.checked os 7 .any (Rows.bagForSpec.pre6 enc Try.prog Try.f7 Rows.bagForRow.domain false) (Rows.bagForSpec.post enc Try.prog Try.f7 false true false false) := by
  refine returnsInHanded_of_change (C := Try.checked) own started (by kernel_rfl) Try.func7
    (ChangeSpec.witness6 (enc := enc) (C := Try.checked) false ⟨#[], #[.agg #[.slice none 0 0, .int .i64 0], .int .i64 0, .int .i64 0], []⟩ 8 (by kernel_rfl) (by kernel_rfl) (by kernel_rfl) (by kernel_rfl)) ?_
  intro W base args ds gs before hval hW _ _
  refine law_calls (P := Try.prog) (tb := 4) eok laidOut (by kernel_rfl) (by kernel_rfl) (by kernel_rfl) Try.underlying4 rfl ?_ ?_ hval hW
  · intro H ds h
    match ds, h with
    | [d0, d1, d2], _ => rfl
  · intro xs h
    obtain ⟨x0, r, rfl, h0, h⟩ := h
    obtain ⟨x1, r, rfl, h1, h⟩ := h
    obtain ⟨x2, r, rfl, h2, h⟩ := h
    cases h
    obtain ⟨n0, rfl⟩ := par24 h0
    obtain ⟨n1, rfl, _⟩ := par3 h1
    obtain ⟨n2, rfl, _⟩ := par3 h2
    exact bagFor_fn n0 n1 n2
theorem bagFor_holds : Rows.BagForSaid :=
  OpenClaim.holds_of_wide 7 Try.f7 rfl rfl rfl rfl rfl rfl rfl ⟨rfl, rfl, rfl, rfl, rfl⟩ rfl rfl rfl rfl rfl (by kernel_rfl) Try.func7 (by kernel_rfl)
    (of_decide_eq_true (by kernel_rfl)) (by unfold Func.isWrapper; first | (rw [if_pos (by decide +kernel)]; kernel_rfl) | (rw [if_neg (by decide +kernel)]; exact ⟨rfl, rfl⟩))
    (fun os started H enc _ => bagFor_lifted os started H enc)

end Go.Proofs.Ytgnddlldcglpfaa
