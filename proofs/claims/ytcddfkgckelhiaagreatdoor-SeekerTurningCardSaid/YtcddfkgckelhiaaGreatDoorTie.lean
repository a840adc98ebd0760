/-
  DERIVED. GIVEN WITH THE SEED: THE PROGRAM's TIES (one call each: nine closed facts by the kernel) AND EACH ROW's TIE, after the 31st guide's Derived/Test/Toyas{Tie, Card}.lean. No idea stands in it: it is a product of the set-up. Laid BY PROGRAM, IN A SANDBOX (cutbox-door.mjs). By AI agents, Wed Nov 11 2026. No macro, syntax, notation, axiom, sorry.
-/
import Derived.Test.YtcddfkgckelhiaaGreatDoorRows
import Derived.LaidByTextLater
import Derived.SevenTiedAt
import Derived.LaidSub
import Derived.LaidOnce
namespace Go.Proofs.YtcddfkgckelhiaaGreatDoor
open Go
set_option maxRecDepth 100000
theorem seatTie1 : Tryz.prog.laidByTextLater [("velarium/sail.checks", Rows.laid_velarium_sail_checks), ("velarium/seeker.checks", Rows.laid_velarium_seeker_checks), ("velarium/seeker.says", Rows.laid_velarium_seeker_says), ("velarium/stair.checks", Rows.laid_velarium_stair_checks), ("velarium/stair.allows", Rows.laid_velarium_stair_allows), ("velarium/stair.fog", Rows.laid_velarium_stair_fog), ("velarium/strip.checks", Rows.laid_velarium_strip_checks)] [.funcs, .funcs, .funcs, .funcs, .funcs, .data, .funcs] true :=
  Program.laidByTextLater_by_one 56 8 3 (by kernel_rfl) (by kernel_rfl) (by kernel_rfl) (by kernel_rfl) (by kernel_rfl) (by kernel_rfl) (fun _ _ => by kernel_rfl)
theorem noOwnUnsafe : Tryz.pinned.checked.prog.headLifts.contains "ownunsafe" = false := by kernel_rfl
theorem tie : Tryz.prog.laidByTextLater [("velarium/seeker.checks", Rows.laid_velarium_seeker_checks), ("velarium/seeker.says", Rows.laid_velarium_seeker_says), ("velarium/stair.checks", Rows.laid_velarium_stair_checks), ("velarium/stair.allows", Rows.laid_velarium_stair_allows), ("velarium/stair.fog", Rows.laid_velarium_stair_fog)] [.funcs, .funcs, .funcs, .funcs, .data] true :=
  Program.laidByTextLater.sub seatTie1 ["velarium/seeker.checks", "velarium/seeker.says", "velarium/stair.checks", "velarium/stair.allows", "velarium/stair.fog"] (by kernel_rfl) (by kernel_rfl)
theorem seekerCrowd_row_tie : Rows.seekerCrowdRow.laidByTextAt .later Tryz.pinned [.funcs, .funcs, .funcs, .funcs, .data] true :=
  OpenClaim.laidByTextAt_later rfl rfl tie noOwnUnsafe
theorem tie2 : Tryz.prog.laidByTextLater [("velarium/seeker.checks", Rows.laid_velarium_seeker_checks), ("velarium/seeker.says", Rows.laid_velarium_seeker_says), ("velarium/strip.checks", Rows.laid_velarium_strip_checks)] [.funcs, .funcs, .funcs] true :=
  Program.laidByTextLater.sub seatTie1 ["velarium/seeker.checks", "velarium/seeker.says", "velarium/strip.checks"] (by kernel_rfl) (by kernel_rfl)
theorem seekerTurning_row_tie : Rows.seekerTurningRow.laidByTextAt .later Tryz.pinned [.funcs, .funcs, .funcs] true :=
  OpenClaim.laidByTextAt_later rfl rfl tie2 noOwnUnsafe
theorem tie3 : Tryz.prog.laidByTextLater [("velarium/sail.checks", Rows.laid_velarium_sail_checks), ("velarium/seeker.checks", Rows.laid_velarium_seeker_checks), ("velarium/seeker.says", Rows.laid_velarium_seeker_says)] [.funcs, .funcs, .funcs] true :=
  Program.laidByTextLater.sub seatTie1 ["velarium/sail.checks", "velarium/seeker.checks", "velarium/seeker.says"] (by kernel_rfl) (by kernel_rfl)
theorem seekerLit_row_tie : Rows.seekerLitRow.laidByTextAt .later Tryz.pinned [.funcs, .funcs, .funcs] true :=
  OpenClaim.laidByTextAt_later rfl rfl tie3 noOwnUnsafe
theorem seekerCrowdUpto_row_tie : Rows.seekerCrowdUptoRow.laidByTextAt .later Tryz.pinned [.funcs, .funcs, .funcs, .funcs, .data] true :=
  OpenClaim.laidByTextAt_later rfl rfl tie noOwnUnsafe
theorem seekerTurningUpto_row_tie : Rows.seekerTurningUptoRow.laidByTextAt .later Tryz.pinned [.funcs, .funcs, .funcs] true :=
  OpenClaim.laidByTextAt_later rfl rfl tie2 noOwnUnsafe
theorem seekerLitUpto_row_tie : Rows.seekerLitUptoRow.laidByTextAt .later Tryz.pinned [.funcs, .funcs, .funcs] true :=
  OpenClaim.laidByTextAt_later rfl rfl tie3 noOwnUnsafe
end Go.Proofs.YtcddfkgckelhiaaGreatDoor
