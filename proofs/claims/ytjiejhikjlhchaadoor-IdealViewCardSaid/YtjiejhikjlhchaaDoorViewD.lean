/- Written by a program (pre.py) from the source of the same name. -/
/- Views: how the row is sorted: what compares. -/
import Derived.Test.YtjiejhikjlhchaaDoorViewC
import Derived.Shelf.Lay
import Derived.Shelf.SlSortCmp.Kit1
import Derived.BigQuiet
set_option linter.unusedSimpArgs false
set_option linter.unusedVariables false
set_option linter.unnecessarySimpa false
namespace Go.Proofs.YtjiejhikjlhchaaDoor
open Go.Gar Go.Shelf
set_option maxRecDepth 4000

theorem place_c (n : Int) (W : World) : Calls Tryd.prog 69 #[.int .i64 n] W fun e w' => e = .returned (.int .i64 (plT n)) ∧ w' = W := by
  have h : bits BinOp.and IntKind.i64 n 65535 = plT n := and_pl n
  go_enter Tryd.func69, Tryd.ntmps69
  go_wp2
  go_ret
  exact ⟨rfl, rfl⟩
theorem far_c (a b : Int) (W : World) : Calls Tryd.prog 58 #[.int .i64 a, .int .i64 b] W fun e w' => e = .returned (.int .i64 (farT a b)) ∧ w' = W := by
  have h1 := place_c a
  have h2 := place_c b
  have h3 := place_c (plT b - plT a)
  have h4 := far_pl a b
  have h5 := plT_lt a
  have h6 := plT_lt b
  have h7 : IntKind.i64.wrap (plT b - plT a) = plT b - plT a := by simp [IntKind.wrap, IntKind.bits, IntKind.signed]; omega
  generalize plT a = x at *
  generalize plT b = y at *
  go_enter Tryd.func58, Tryd.ntmps58
  go_wp2_with (go_at_call 69; first | ((with_reducible refine (h1 _).mono ?_); rintro e w' ⟨rfl, rfl⟩) | ((with_reducible refine (h2 _).mono ?_); rintro e w' ⟨rfl, rfl⟩) | ((with_reducible refine (h3 _).mono ?_); rintro e w' ⟨rfl, rfl⟩))
  go_ret
  exact ⟨rfl, rfl⟩
theorem nan_c (n : Int) (W : World) : Calls Tryd.prog 70 #[.int .i64 n] W fun e w' => e = .returned (.bool false) ∧ w' = W := by
  go_enter Tryd.func70, Tryd.ntmps70
  go_wp2
  go_ret
  exact ⟨rfl, rfl⟩
def cmpV (x y : Int) : Int := if x < y then -1 else if x > y then 1 else 0
theorem cmp_c (x y : Int) (W : World) : Calls Tryd.prog 57 #[.int .i64 x, .int .i64 y] W fun e w' => e = .returned (.int .i64 (cmpV x y)) ∧ w' = W := by
  have h1 := nan_c
  go_enter Tryd.func57, Tryd.ntmps57
  go_wp2_with (go_at_call 70; refine (h1 _ _).mono ?_; rintro e w' ⟨rfl, rfl⟩)
  all_goals (go_ret; refine ⟨?_, rfl⟩; unfold cmpV; (repeat' split) <;> first | rfl | (exfalso; omega))
end Go.Proofs.YtjiejhikjlhchaaDoor
