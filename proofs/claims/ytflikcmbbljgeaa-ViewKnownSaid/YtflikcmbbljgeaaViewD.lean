/- Written by a program (pre.py) from the source of the same name. -/
/- Views: how the row is sorted: what compares. -/
import Derived.Test.YtflikcmbbljgeaaViewC
import Derived.Shelf.Lay
import Derived.Shelf.SlSortCmp.Kit1
import Derived.BigQuiet
set_option linter.unusedSimpArgs false
set_option linter.unusedVariables false
set_option linter.unnecessarySimpa false
namespace Go.Proofs.Ytflikcmbbljgeaa
open Go.Gar Go.Shelf
set_option maxRecDepth 4000

theorem place_c (n : Int) (W : World) : Calls Try.prog 89 #[.int .i64 n] W fun e w' => e = .returned (.int .i64 (plT n)) ∧ w' = W := by
  have h : bits BinOp.and IntKind.i64 n 65535 = plT n := and_pl n
  go_enter Try.func89, Try.ntmps89
  go_wp2
  go_ret
  exact ⟨rfl, rfl⟩
theorem far_c (a b : Int) (W : World) : Calls Try.prog 72 #[.int .i64 a, .int .i64 b] W fun e w' => e = .returned (.int .i64 (farT a b)) ∧ w' = W := by
  have h1 := place_c a
  have h2 := place_c b
  have h3 := place_c (plT b - plT a)
  have h4 := far_pl a b
  have h5 := plT_lt a
  have h6 := plT_lt b
  have h7 : IntKind.i64.wrap (plT b - plT a) = plT b - plT a := by simp [IntKind.wrap, IntKind.bits, IntKind.signed]; omega
  generalize plT a = x at *
  generalize plT b = y at *
  go_enter Try.func72, Try.ntmps72
  go_wp2_with (go_at_call 89; first | ((with_reducible refine (h1 _).mono ?_); rintro e w' ⟨rfl, rfl⟩) | ((with_reducible refine (h2 _).mono ?_); rintro e w' ⟨rfl, rfl⟩) | ((with_reducible refine (h3 _).mono ?_); rintro e w' ⟨rfl, rfl⟩))
  go_ret
  exact ⟨rfl, rfl⟩
theorem nan_c (n : Int) (W : World) : Calls Try.prog 88 #[.int .i64 n] W fun e w' => e = .returned (.bool false) ∧ w' = W := by
  go_enter Try.func88, Try.ntmps88
  go_wp2
  go_ret
  exact ⟨rfl, rfl⟩
def cmpV (x y : Int) : Int := if x < y then -1 else if x > y then 1 else 0
theorem cmp_c (x y : Int) (W : World) : Calls Try.prog 58 #[.int .i64 x, .int .i64 y] W fun e w' => e = .returned (.int .i64 (cmpV x y)) ∧ w' = W := by
  have h1 := nan_c
  go_enter Try.func58, Try.ntmps58
  go_wp2_with (go_at_call 88; refine (h1 _ _).mono ?_; rintro e w' ⟨rfl, rfl⟩)
  all_goals (go_ret; refine ⟨?_, rfl⟩; unfold cmpV; (repeat' split) <;> first | rfl | (exfalso; omega))
set_option maxHeartbeats 2000000 in
theorem known_c (id a b : Int) (c : Nat) (W : World) (hc : W.cell? ⟨c, 0, none⟩ = some (.int .i64 id)) : Calls Try.prog 71 (#[.int .i64 a, .int .i64 b] ++ #[.pointer (some ⟨c, 0, none⟩)]) W fun e w' => e = .returned (.int .i64 (cmpV (farT id a) (farT id b))) ∧ ∃ q, w' = W.drewN q := by
  have h1 := far_c id a
  have h2 := far_c id b
  have h3 := cmp_c (farT id a) (farT id b)
  generalize cmpV (farT id a) (farT id b) = z at *
  generalize farT id a = x at *
  generalize farT id b = y at *
  go_enter Try.func71, Try.ntmps71
  go_wp2
  go_big_quiet (first | (go_at_call 72; with_reducible first | exact Calls.quiet_of_same (h1 _) | exact Calls.quiet_of_same (h2 _)) | (go_at_call 58; with_reducible exact Calls.quiet_of_same (h3 _)))
  go_wp2
  go_ret
  exact ⟨rfl, nq, rfl⟩
end Go.Proofs.Ytflikcmbbljgeaa
