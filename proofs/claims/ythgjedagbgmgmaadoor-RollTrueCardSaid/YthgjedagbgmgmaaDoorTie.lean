/-
  DERIVED. GIVEN WITH THE SEED: THE PROGRAM's TIES (one call each: nine closed facts by the kernel) AND EACH ROW's TIE, after the 31st guide's Derived/Test/Toyas{Tie, Card}.lean. No idea stands in it: it is a product of the set-up. Laid BY PROGRAM, IN A SANDBOX (cutbox-door.mjs). By AI agents, Wed Nov 11 2026. No macro, syntax, notation, axiom, sorry.
-/
import Derived.Test.YthgjedagbgmgmaaDoorRows
import Derived.LaidByTextLater
import Derived.SevenTiedAt
import Derived.LaidSub
import Derived.LaidOnce
namespace Go.Proofs.YthgjedagbgmgmaaDoor
open Go
set_option maxRecDepth 100000
theorem seatTie1 : Tryd.prog.laidByTextLater [("macadam/roll.begin", Rows.laid_macadam_roll_begin), ("macadam/roll.skies", Rows.laid_macadam_roll_skies), ("macadam/weigh.nothing", Rows.laid_macadam_weigh_nothing), ("macadam/weigh.ends", Rows.laid_macadam_weigh_ends), ("macadam/toll.nowhere", Rows.laid_macadam_toll_nowhere), ("macadam/toll.kinds", Rows.laid_macadam_toll_kinds)] [.data, .funcs, .data, .funcs, .data, .funcs] true :=
  Program.laidByTextLater_by_one 39 8 3 (by kernel_rfl) (by kernel_rfl) (by kernel_rfl) (by kernel_rfl) (by kernel_rfl) (by kernel_rfl) (fun _ _ => by kernel_rfl)
theorem noOwnUnsafe : Tryd.pinned.checked.prog.headLifts.contains "ownunsafe" = false := by kernel_rfl
theorem tie : Tryd.prog.laidByTextLater [("macadam/roll.begin", Rows.laid_macadam_roll_begin), ("macadam/roll.skies", Rows.laid_macadam_roll_skies)] [.data, .funcs] true :=
  Program.laidByTextLater.sub seatTie1 ["macadam/roll.begin", "macadam/roll.skies"] (by kernel_rfl) (by kernel_rfl)
theorem rollBounds_row_tie : Rows.rollBoundsRow.laidByTextAt .later Tryd.pinned [.data, .funcs] true :=
  OpenClaim.laidByTextAt_later rfl rfl tie noOwnUnsafe
theorem rollStones_row_tie : Rows.rollStonesRow.laidByTextAt .later Tryd.pinned [.data, .funcs] true :=
  OpenClaim.laidByTextAt_later rfl rfl tie noOwnUnsafe
theorem rollFits_row_tie : Rows.rollFitsRow.laidByTextAt .later Tryd.pinned [.data, .funcs] true :=
  OpenClaim.laidByTextAt_later rfl rfl tie noOwnUnsafe
theorem rollTrue_row_tie : Rows.rollTrueRow.laidByTextAt .later Tryd.pinned [.data, .funcs] true :=
  OpenClaim.laidByTextAt_later rfl rfl tie noOwnUnsafe
theorem rollSteps_row_tie : Rows.rollStepsRow.laidByTextAt .later Tryd.pinned [.data, .funcs] true :=
  OpenClaim.laidByTextAt_later rfl rfl tie noOwnUnsafe
theorem rollMore_row_tie : Rows.rollMoreRow.laidByTextAt .later Tryd.pinned [.data, .funcs] true :=
  OpenClaim.laidByTextAt_later rfl rfl tie noOwnUnsafe
theorem rollDone_row_tie : Rows.rollDoneRow.laidByTextAt .later Tryd.pinned [.data, .funcs] true :=
  OpenClaim.laidByTextAt_later rfl rfl tie noOwnUnsafe
theorem rollStone_row_tie : Rows.rollStoneRow.laidByTextAt .later Tryd.pinned [.data, .funcs] true :=
  OpenClaim.laidByTextAt_later rfl rfl tie noOwnUnsafe
theorem rollWater_row_tie : Rows.rollWaterRow.laidByTextAt .later Tryd.pinned [.data, .funcs] true :=
  OpenClaim.laidByTextAt_later rfl rfl tie noOwnUnsafe
theorem rollBest_row_tie : Rows.rollBestRow.laidByTextAt .later Tryd.pinned [.data, .funcs] true :=
  OpenClaim.laidByTextAt_later rfl rfl tie noOwnUnsafe
theorem rollPass_row_tie : Rows.rollPassRow.laidByTextAt .later Tryd.pinned [.data, .funcs] true :=
  OpenClaim.laidByTextAt_later rfl rfl tie noOwnUnsafe
theorem rollWrong_row_tie : Rows.rollWrongRow.laidByTextAt .later Tryd.pinned [.data, .funcs] true :=
  OpenClaim.laidByTextAt_later rfl rfl tie noOwnUnsafe
theorem rollKnown_row_tie : Rows.rollKnownRow.laidByTextAt .later Tryd.pinned [.data, .funcs] true :=
  OpenClaim.laidByTextAt_later rfl rfl tie noOwnUnsafe
theorem tie2 : Tryd.prog.laidByTextLater [("macadam/weigh.nothing", Rows.laid_macadam_weigh_nothing), ("macadam/weigh.ends", Rows.laid_macadam_weigh_ends), ("macadam/toll.nowhere", Rows.laid_macadam_toll_nowhere), ("macadam/toll.kinds", Rows.laid_macadam_toll_kinds)] [.data, .funcs, .data, .funcs] true :=
  Program.laidByTextLater.sub seatTie1 ["macadam/weigh.nothing", "macadam/weigh.ends", "macadam/toll.nowhere", "macadam/toll.kinds"] (by kernel_rfl) (by kernel_rfl)
theorem topSame_row_tie : Rows.topSameRow.laidByTextAt .later Tryd.pinned [.data, .funcs, .data, .funcs] true :=
  OpenClaim.laidByTextAt_later rfl rfl tie2 noOwnUnsafe
theorem rollBoundsUpto_row_tie : Rows.rollBoundsUptoRow.laidByTextAt .later Tryd.pinned [.data, .funcs] true :=
  OpenClaim.laidByTextAt_later rfl rfl tie noOwnUnsafe
theorem rollStonesUpto_row_tie : Rows.rollStonesUptoRow.laidByTextAt .later Tryd.pinned [.data, .funcs] true :=
  OpenClaim.laidByTextAt_later rfl rfl tie noOwnUnsafe
theorem rollFitsUpto_row_tie : Rows.rollFitsUptoRow.laidByTextAt .later Tryd.pinned [.data, .funcs] true :=
  OpenClaim.laidByTextAt_later rfl rfl tie noOwnUnsafe
theorem topSameUpto_row_tie : Rows.topSameUptoRow.laidByTextAt .later Tryd.pinned [.data, .funcs, .data, .funcs] true :=
  OpenClaim.laidByTextAt_later rfl rfl tie2 noOwnUnsafe
theorem rollTrueUpto_row_tie : Rows.rollTrueUptoRow.laidByTextAt .later Tryd.pinned [.data, .funcs] true :=
  OpenClaim.laidByTextAt_later rfl rfl tie noOwnUnsafe
theorem rollStepsUpto_row_tie : Rows.rollStepsUptoRow.laidByTextAt .later Tryd.pinned [.data, .funcs] true :=
  OpenClaim.laidByTextAt_later rfl rfl tie noOwnUnsafe
theorem rollMoreUpto_row_tie : Rows.rollMoreUptoRow.laidByTextAt .later Tryd.pinned [.data, .funcs] true :=
  OpenClaim.laidByTextAt_later rfl rfl tie noOwnUnsafe
theorem rollDoneUpto_row_tie : Rows.rollDoneUptoRow.laidByTextAt .later Tryd.pinned [.data, .funcs] true :=
  OpenClaim.laidByTextAt_later rfl rfl tie noOwnUnsafe
theorem rollStoneUpto_row_tie : Rows.rollStoneUptoRow.laidByTextAt .later Tryd.pinned [.data, .funcs] true :=
  OpenClaim.laidByTextAt_later rfl rfl tie noOwnUnsafe
theorem rollWaterUpto_row_tie : Rows.rollWaterUptoRow.laidByTextAt .later Tryd.pinned [.data, .funcs] true :=
  OpenClaim.laidByTextAt_later rfl rfl tie noOwnUnsafe
theorem rollBestUpto_row_tie : Rows.rollBestUptoRow.laidByTextAt .later Tryd.pinned [.data, .funcs] true :=
  OpenClaim.laidByTextAt_later rfl rfl tie noOwnUnsafe
theorem rollPassUpto_row_tie : Rows.rollPassUptoRow.laidByTextAt .later Tryd.pinned [.data, .funcs] true :=
  OpenClaim.laidByTextAt_later rfl rfl tie noOwnUnsafe
theorem rollWrongUpto_row_tie : Rows.rollWrongUptoRow.laidByTextAt .later Tryd.pinned [.data, .funcs] true :=
  OpenClaim.laidByTextAt_later rfl rfl tie noOwnUnsafe
theorem rollKnownUpto_row_tie : Rows.rollKnownUptoRow.laidByTextAt .later Tryd.pinned [.data, .funcs] true :=
  OpenClaim.laidByTextAt_later rfl rfl tie noOwnUnsafe
end Go.Proofs.YthgjedagbgmgmaaDoor
