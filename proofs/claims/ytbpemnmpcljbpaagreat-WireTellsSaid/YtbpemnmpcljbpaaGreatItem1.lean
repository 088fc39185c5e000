/- Written by a program (pre.py) from the source of the same name. -/
/- Pairs: their data; ranks; which is newer. -/
import Derived.Test.YtbpemnmpcljbpaaGreatTab
import Derived.Test.YtbpemnmpcljbpaaGreatFwE
set_option linter.unusedSimpArgs false
set_option linter.unusedVariables false
set_option linter.unnecessarySimpa false
namespace Go.Proofs.YtbpemnmpcljbpaaGreat
open Go.Gar
set_option maxRecDepth 4000
theorem mixed : Tryz.prog.follows .mixedOrders = true := by kernel_rfl
theorem beq_dec {α : Type} [BEq α] [LawfulBEq α] [DecidableEq α] (a b : α) : (a == b) = decide (a = b) := by
  by_cases h : a = b <;> simp [h]
theorem get_of {α : Type} {xs : List α} {k : Nat} (h : k < xs.length) : ∃ x, xs[k]? = some x := ⟨xs[k], List.getElem?_eq_getElem h⟩
theorem take_succ_of {α : Type} {l : List α} {k : Nat} {x : α} (hx : l[k]? = some x) : l.take (k + 1) = l.take k ++ [x] := by
  rw [List.take_add_one, hx]; rfl
theorem ne_false {a b : Int} (h : a = b) : (a != b) = false := by rw [bne_eq_false_iff_eq]; exact h
theorem ne_true {a b : Int} (h : a ≠ b) : (a != b) = true := by rw [bne_iff_ne]; exact h
theorem eq_false' {a b : Int} (h : a ≠ b) : (a == b) = false := by rw [beq_eq_false_iff_ne]; exact h
theorem eq_true' {a b : Int} (h : a = b) : (a == b) = true := by rw [beq_iff_eq]; exact h

structure Item where
  key : List UInt8
  value : Int
  version : Int
  gone : Bool
  deriving DecidableEq
def Item.cells (x : Item) : List D := [.s x.key, .i .i64 x.value, .i .i64 x.version, .b x.gone]
def Item.d (x : Item) : D := .agg x.cells
abbrev itemsD (l : List Item) : D := .sl 4 (l.map Item.cells)
def zeroI : Item := ⟨[], 0, 0, false⟩
def Item.rank (x : Item) : D := .agg [.i .i64 x.version, .i .i64 x.value, .b x.gone]
theorem item_eqL (x y : Item) : eqL x.cells y.cells = decide (x = y) := by
  obtain ⟨a, b, c, d⟩ := x
  obtain ⟨a', b', c', d'⟩ := y
  simp [Item.cells, eqL, eq1, beq_dec]
theorem item_eqX (x y : Item) : eqL [.s x.key, .i .i64 x.value, .i .i64 x.version, .b x.gone] [.s y.key, .i .i64 y.value, .i .i64 y.version, .b y.gone] = decide (x = y) := item_eqL x y

def cmpI (x y : Int) : Int := if x < y then -1 else if y < x then 1 else 0
def orI (a b : Int) : Int := if a = 0 then b else a
end Go.Proofs.YtbpemnmpcljbpaaGreat
