/- Written by a program (pre.py) from the source of the same name. -/
/- Views: who is known: all others, in a row. -/
import Derived.Test.YtjiejhikjlhchaaDoorViewB
set_option linter.unusedSimpArgs false
set_option linter.unusedVariables false
set_option linter.unnecessarySimpa false
namespace Go.Proofs.YtjiejhikjlhchaaDoor
open Go.Gar
set_option maxRecDepth 4000

def addN (id : Int) (o : List Int) (n : Int) : List Int := if n ≠ id then o ++ [n] else o
def addT (id : Int) (o : List Int) (n : Int) : List Int := if n ≠ -1 ∧ n ≠ id then o ++ [n] else o
theorem addT_le {id : Int} {o : List Int} {n : Int} {c B : Nat} (h : o.length + (c + 1) ≤ B) : (addT id o n).length + c ≤ B := by
  unfold addT; split
  · rw [List.length_append, List.length_singleton]; omega
  · omega
theorem addN_fold (id : Int) : ∀ (l o : List Int), (l.foldl (addN id) o).length ≤ o.length + l.length
  | [], o => by simp
  | a :: l, o => by
    have h := addN_fold id l (addN id o a)
    have h2 : (addN id o a).length ≤ o.length + 1 := by unfold addN; split <;> simp
    simp only [List.foldl_cons, List.length_cons]; omega
theorem fold_take {g : List Int → Int → List Int} {s : List Int} {l : List Int} {k : Nat} {p : Int} (hp : l[k]? = some p) : (l.take (k + 1)).foldl g s = g ((l.take k).foldl g s) p := by
  rw [take_succ_of hp, List.foldl_append]; rfl
def rowsT (id : Int) (base list : List Int) : List Int := list.foldl (addN id) (base.foldl (addN id) [])
def othT (id : Int) (base list : List Int) (pred : Int) (f : Nat → Int) : List Int := (pred :: fins f).foldl (addT id) (rowsT id base list)

/-- The heap while others are told: v; the row; v; its memory; the loop's body; more. -/
def oH (id : Int) (base list : List Int) (pred : Int) (f : Nat → Int) (r : Lp) (o : List Int) (L : List Blk) : List Blk :=
  .c (vC id base list pred f) :: .c [.sl 3 o.length 1] :: .c (vC id base list pred f) :: .a (.is o) :: .lp r :: L

end Go.Proofs.YtjiejhikjlhchaaDoor
