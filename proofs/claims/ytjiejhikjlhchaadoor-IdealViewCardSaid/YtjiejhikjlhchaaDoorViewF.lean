/- Written by a program (pre.py) from the source of the same name. -/
/- Views: SortFunc as a contract of this frame: v's block stays, the row's is sorted. -/
import Derived.Test.YtjiejhikjlhchaaDoorViewE
import Derived.Test.YtjiejhikjlhchaaDoorFwE
set_option linter.unusedSimpArgs false
set_option linter.unusedVariables false
set_option linter.unnecessarySimpa false
namespace Go.Proofs.YtjiejhikjlhchaaDoor
open Go.Gar Go.Shelf Go.Sort Go.RowKit Go.Lib
set_option maxRecDepth 4000

def psA (id : Int) (zs : List Int) : Array Int := pdq (ltOf (cfI id)) zs.toArray 0 zs.toArray.size (Lib.bitLen zs.toArray.size) true true
def psT (id : Int) (zs : List Int) : List Int := (psA id zs).toList
theorem psA_ok (id : Int) (zs : List Int) : PermIn 0 zs.toArray.size zs.toArray (psA id zs) ∧ SortedIn (ltOf (cfI id)) 0 zs.toArray.size (psA id zs) :=
  pdq_sorts (ltOf (cfI id)) (cfI_swo id) zs.toArray 0 zs.toArray.size (Lib.bitLen zs.toArray.size) true true (Nat.zero_le _) (Nat.le_refl _) (Or.inl rfl)
theorem psT_len (id : Int) (zs : List Int) : (psT id zs).length = zs.length := by
  have h := (psA_ok id zs).1
  unfold psT
  simpa using h.1
theorem is_ok : RowOK (Value.int .i64) (fun l : List Int => D.is l) (D.i .i64) where
  sl _ := rfl
  ok l := by simp [D.is, slOk]
  c l := by
    induction l with
    | nil => rfl
    | cons a r ih => simp only [D.is, slc, List.map_cons, List.flatten_cons] at ih ⊢
  n l := by simp [D.is, sln]
  z _ := rfl
  r m a v := by simp only [RD]
  one _ := rfl
end Go.Proofs.YtjiejhikjlhchaaDoor
