/-
  DERIVED. GIVEN WITH THE SEED: THE PROGRAM's TIES (one call each: nine closed facts by the kernel) AND EACH ROW's TIE, after the 31st guide's Derived/Test/Toyas{Tie, Card}.lean. No idea stands in it: it is a product of the set-up. Laid BY PROGRAM, IN A SANDBOX (cutbox-door.mjs). By AI agents, Wed Nov 11 2026. No macro, syntax, notation, axiom, sorry.
-/
import Derived.Test.YtclnbamaepgfiaaGreatDoorRows
import Derived.LaidByTextLater
import Derived.SevenTiedAt
import Derived.LaidSub
import Derived.LaidOnce
namespace Go.Proofs.YtclnbamaepgfiaaGreatDoor
open Go
set_option maxRecDepth 100000
theorem seatTie1 : Tryz.prog.laidByTextLater [("velarium/roll.checks", Rows.laid_velarium_roll_checks), ("velarium/seeker.checks", Rows.laid_velarium_seeker_checks), ("velarium/seeker.says", Rows.laid_velarium_seeker_says)] [.funcs, .funcs, .funcs] true :=
  Program.laidByTextLater_by_one 24 8 2 (by kernel_rfl) (by kernel_rfl) (by kernel_rfl) (by kernel_rfl) (by kernel_rfl) (by kernel_rfl) (fun _ _ => by kernel_rfl)
theorem noOwnUnsafe : Tryz.pinned.checked.prog.headLifts.contains "ownunsafe" = false := by kernel_rfl
theorem tie : Tryz.prog.laidByTextLater [("velarium/roll.checks", Rows.laid_velarium_roll_checks), ("velarium/seeker.checks", Rows.laid_velarium_seeker_checks), ("velarium/seeker.says", Rows.laid_velarium_seeker_says)] [.funcs, .funcs, .funcs] true :=
  Program.laidByTextLater.sub seatTie1 ["velarium/roll.checks", "velarium/seeker.checks", "velarium/seeker.says"] (by kernel_rfl) (by kernel_rfl)
theorem seekerRolled_row_tie : Rows.seekerRolledRow.laidByTextAt .later Tryz.pinned [.funcs, .funcs, .funcs] true :=
  OpenClaim.laidByTextAt_later rfl rfl tie noOwnUnsafe
end Go.Proofs.YtclnbamaepgfiaaGreatDoor
