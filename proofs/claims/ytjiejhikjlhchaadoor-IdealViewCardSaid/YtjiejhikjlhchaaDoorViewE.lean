/- Written by a program (pre.py) from the source of the same name. -/
/- Views: how the row is sorted: the library's SortFunc, with what compares. -/
import Derived.Test.YtjiejhikjlhchaaDoorViewD
import Derived.Test.YtjiejhikjlhchaaDoorShelfF
import Derived.Shelf.SlSortCmp.NoneTotal
import Derived.Ground.SlsfProg
set_option linter.unusedSimpArgs false
set_option linter.unusedVariables false
set_option linter.unnecessarySimpa false
namespace Go.Proofs.YtjiejhikjlhchaaDoor
open Go.Gar Go.Shelf Go.Sort Go.RowKit Go.Lib
set_option maxRecDepth 4000


def cfI (id a b : Int) : Int := cmpV (farT id a) (farT id b)
theorem cfI_lt (id a b : Int) : ltOf (cfI id) a b = decide (farT id a < farT id b) := by
  unfold ltOf cfI cmpV
  by_cases h1 : farT id a < farT id b
  · simp [h1]
  · by_cases h2 : farT id a > farT id b <;> simp [h1, h2]
theorem cfI_swo (id : Int) : SWO (ltOf (cfI id)) where
  irrefl x := by rw [cfI_lt]; simp
  trans x y z h1 h2 := by rw [cfI_lt] at *; simp at *; omega
  ntrans x y z h1 h2 := by rw [cfI_lt] at *; simp at *; omega
end Go.Proofs.YtjiejhikjlhchaaDoor
