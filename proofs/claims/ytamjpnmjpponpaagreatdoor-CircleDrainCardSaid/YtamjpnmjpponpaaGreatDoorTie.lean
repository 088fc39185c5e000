/-
  DERIVED. GIVEN WITH THE SEED: THE PROGRAM's TIES (one call each: nine closed facts by the kernel) AND EACH ROW's TIE, after the 31st guide's Derived/Test/Toyas{Tie, Card}.lean. No idea stands in it: it is a product of the set-up. Laid BY PROGRAM, IN A SANDBOX (cutbox-door.mjs). By AI agents, Wed Nov 11 2026. No macro, syntax, notation, axiom, sorry.
-/
import Derived.Test.YtamjpnmjpponpaaGreatDoorRows
import Derived.LaidByTextLater
import Derived.SevenTiedAt
import Derived.LaidSub
import Derived.LaidOnce
namespace Go.Proofs.YtamjpnmjpponpaaGreatDoor
open Go
set_option maxRecDepth 100000
theorem seatTie1 : Tryz.prog.laidByTextLater [("garland/arc.starts", Rows.laid_garland_arc_starts), ("garland/wait.waits", Rows.laid_garland_wait_waits), ("garland/stab.rounds", Rows.laid_garland_stab_rounds)] [.data, .data, .data] true :=
  Program.laidByTextLater_by_one 27 8 17 (by kernel_rfl) (by kernel_rfl) (by kernel_rfl) (by kernel_rfl) (by kernel_rfl) (by kernel_rfl) (fun _ _ => by kernel_rfl)
theorem noOwnUnsafe : Tryz.pinned.checked.prog.headLifts.contains "ownunsafe" = false := by kernel_rfl
theorem tie : Tryz.prog.laidByTextLater [("garland/arc.starts", Rows.laid_garland_arc_starts), ("garland/wait.waits", Rows.laid_garland_wait_waits), ("garland/stab.rounds", Rows.laid_garland_stab_rounds)] [.data, .data, .data] true :=
  Program.laidByTextLater.sub seatTie1 ["garland/arc.starts", "garland/wait.waits", "garland/stab.rounds"] (by kernel_rfl) (by kernel_rfl)
theorem circleRight_row_tie : Rows.circleRightRow.laidByTextAt .later Tryz.pinned [.data, .data, .data] true :=
  OpenClaim.laidByTextAt_later rfl rfl tie noOwnUnsafe
theorem circleDrain_row_tie : Rows.circleDrainRow.laidByTextAt .later Tryz.pinned [.data, .data, .data] true :=
  OpenClaim.laidByTextAt_later rfl rfl tie noOwnUnsafe
theorem circleRightUpto_row_tie : Rows.circleRightUptoRow.laidByTextAt .later Tryz.pinned [.data, .data, .data] true :=
  OpenClaim.laidByTextAt_later rfl rfl tie noOwnUnsafe
theorem circleDrainUpto_row_tie : Rows.circleDrainUptoRow.laidByTextAt .later Tryz.pinned [.data, .data, .data] true :=
  OpenClaim.laidByTextAt_later rfl rfl tie noOwnUnsafe
end Go.Proofs.YtamjpnmjpponpaaGreatDoor
