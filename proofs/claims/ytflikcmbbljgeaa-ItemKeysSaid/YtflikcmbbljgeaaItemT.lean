/- Written by a program (pre.py) from the source of the same name. -/
/- Pairs: parameters of the laws; the law ItemGone, as its row states it: every input; true; the input reads as it did. -/
import Derived.Test.YtflikcmbbljgeaaFwC
import Derived.Test.YtflikcmbbljgeaaRows
import Derived.Test.YtflikcmbbljgeaaItem8
set_option linter.unusedSimpArgs false
set_option linter.unusedVariables false
set_option linter.unnecessarySimpa false
namespace Go.Proofs.Ytflikcmbbljgeaa
open Go.Gar

theorem own : ownKnob Try.prog.godebug = none := by kernel_rfl
theorem laidOut : laidOutB Try.prog = true := by kernel_rfl
theorem map_open {α : Type} {f : α → List D} {p : α → Prop} {es : List (List D)} (h : ∀ e ∈ es, ∃ a, e = f a ∧ p a) : ∃ l : List α, es = l.map f ∧ ∀ a ∈ l, p a := by
  induction es with
  | nil => exact ⟨[], rfl, fun _ h => by cases h⟩
  | cons e r ih =>
    obtain ⟨a, rfl, ha⟩ := h e (by simp)
    obtain ⟨l, rfl, hl⟩ := ih fun x hx => h x (by simp [hx])
    exact ⟨a :: l, rfl, fun x hx => (List.mem_cons.1 hx).elim (fun e => e ▸ ha) (hl x)⟩
def okI (x : Item) : Prop := -9223372036854775808 ≤ x.version
theorem item_open {e : List D} (h : OkDs [.str, .int .i64, .int .i64, .bool] e) : ∃ x : Item, e = x.cells ∧ okI x := by
  obtain ⟨_, _, rfl, ⟨s, rfl, _⟩, h⟩ := h
  obtain ⟨_, _, rfl, ⟨v, rfl, _⟩, h⟩ := h
  obtain ⟨_, _, rfl, ⟨n, rfl, hn⟩, h⟩ := h
  obtain ⟨_, _, rfl, ⟨g, rfl⟩, h⟩ := h
  cases h
  refine ⟨⟨s, v, n, g⟩, rfl, ?_⟩
  simp [Lit.wf, IntKind.min, IntKind.max, IntKind.signed, IntKind.bits] at hn
  show -9223372036854775808 ≤ n
  omega
theorem par23 {d : D} (h : okPar T.get 23 d) : ∃ x : Item, d = x.d ∧ okI x := by
  obtain ⟨l, rfl, h⟩ := h
  obtain ⟨x, rfl, hx⟩ := item_open h
  exact ⟨x, rfl, hx⟩
theorem par24 {d : D} (h : okPar T.get 24 d) : ∃ l : List Item, d = itemsD l ∧ ∀ x ∈ l, okI x := by
  obtain ⟨s, hs, h⟩ := h; cases hs
  obtain ⟨es, rfl, _, h⟩ := h
  obtain ⟨l, rfl, hl⟩ := map_open (f := Item.cells) (p := okI) fun e he => item_open (h e he)
  exact ⟨l, rfl, hl⟩
theorem par9 {d : D} (h : okPar T.get 9 d) : ∃ l, d = .s l ∧ l.length ≤ maxLen := by
  obtain ⟨s, hs, h⟩ := h; cases hs; exact h

set_option maxRecDepth 100000 in
theorem itemGone_lifted (os : Os) (started : os.Started) (H : Type) (enc : TypeId × Value → H) :
    ReturnsInHanded {} Try.checked os 6 .any (Rows.itemGoneSpec.pre6 enc Try.prog Try.f6 Rows.itemGoneRow.domain false) (Rows.itemGoneSpec.post enc Try.prog Try.f6 false true false false) := by
  refine returnsInHanded_of_change (C := Try.checked) own started (by kernel_rfl) Try.func6
    (ChangeSpec.witness6 (enc := enc) (C := Try.checked) false ⟨#[], #[.agg #[.string ⟨#[]⟩, .int .i64 0, .int .i64 0, .bool false]], []⟩ 8 (by kernel_rfl) (by kernel_rfl) (by kernel_rfl) (by kernel_rfl)) ?_
  intro W base args ds gs before hval hW _ _
  refine law_calls (P := Try.prog) (tb := 4) eok laidOut (by kernel_rfl) (by kernel_rfl) (by kernel_rfl) Try.underlying4 rfl ?_ ?_ hval hW
  · intro H ds h
    match ds, h with
    | [d0], _ => rfl
  · intro xs h
    obtain ⟨x0, r, rfl, h0, h⟩ := h
    cases h
    obtain ⟨n0, rfl, k0⟩ := par23 h0
    exact itemGone_fn n0 k0
theorem itemGone_holds : Rows.ItemGoneSaid :=
  OpenClaim.holds_of_wide 6 Try.f6 rfl rfl rfl rfl rfl rfl rfl ⟨rfl, rfl, rfl, rfl, rfl⟩ rfl rfl rfl rfl rfl (by kernel_rfl) Try.func6 (by kernel_rfl)
    (of_decide_eq_true (by kernel_rfl)) (by unfold Func.isWrapper; first | (rw [if_pos (by decide +kernel)]; kernel_rfl) | (rw [if_neg (by decide +kernel)]; exact ⟨rfl, rfl⟩))
    (fun os started H enc _ => itemGone_lifted os started H enc)

end Go.Proofs.Ytflikcmbbljgeaa
