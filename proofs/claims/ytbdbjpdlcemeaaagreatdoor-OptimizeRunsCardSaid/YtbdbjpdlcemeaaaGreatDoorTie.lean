/-
  DERIVED. GIVEN WITH THE SEED: THE PROGRAM's TIES (one call each: nine closed facts by the kernel) AND EACH ROW's TIE, after the 31st guide's Derived/Test/Toyas{Tie, Card}.lean. No idea stands in it: it is a product of the set-up. Laid BY PROGRAM, IN A SANDBOX (cutbox-door.mjs). By AI agents, Wed Nov 11 2026. No macro, syntax, notation, axiom, sorry.
-/
import Derived.Test.YtbdbjpdlcemeaaaGreatDoorRows
import Derived.LaidByTextLater
import Derived.SevenTiedAt
import Derived.LaidSub
import Derived.LaidOnce
namespace Go.Proofs.YtbdbjpdlcemeaaaGreatDoor
open Go
set_option maxRecDepth 100000
theorem seatTie1 : Tryz.prog.laidByTextLater [("tapline/taplineref01.promoted", Rows.laid_tapline_taplineref01_promoted), ("tapline/code.forms", Rows.laid_tapline_code_forms)] [.data, .widerDeep] true :=
  Program.laidByTextLater_by_one 63 8 206 (by kernel_rfl) (by kernel_rfl) (by kernel_rfl) (by kernel_rfl) (by kernel_rfl) (by kernel_rfl) (fun _ _ => by kernel_rfl)
theorem noOwnUnsafe : Tryz.pinned.checked.prog.headLifts.contains "ownunsafe" = false := by kernel_rfl
theorem tie : Tryz.prog.laidByTextLater [("tapline/taplineref01.promoted", Rows.laid_tapline_taplineref01_promoted), ("tapline/code.forms", Rows.laid_tapline_code_forms)] [.data, .widerDeep] true :=
  Program.laidByTextLater.sub seatTie1 ["tapline/taplineref01.promoted", "tapline/code.forms"] (by kernel_rfl) (by kernel_rfl)
theorem optimizeChecks_row_tie : Rows.optimizeChecksRow.laidByTextAt .later Tryz.pinned [.data, .widerDeep] true :=
  OpenClaim.laidByTextAt_later rfl rfl tie noOwnUnsafe
theorem optimizeSteps_row_tie : Rows.optimizeStepsRow.laidByTextAt .later Tryz.pinned [.data, .widerDeep] true :=
  OpenClaim.laidByTextAt_later rfl rfl tie noOwnUnsafe
theorem optimizeRuns_row_tie : Rows.optimizeRunsRow.laidByTextAt .later Tryz.pinned [.data, .widerDeep] true :=
  OpenClaim.laidByTextAt_later rfl rfl tie noOwnUnsafe
theorem tie2 : Tryz.prog.laidByTextLater [("tapline/code.forms", Rows.laid_tapline_code_forms)] [.widerDeep] true :=
  Program.laidByTextLater.sub seatTie1 ["tapline/code.forms"] (by kernel_rfl) (by kernel_rfl)
theorem optimizeKeeps_row_tie : Rows.optimizeKeepsRow.laidByTextAt .later Tryz.pinned [.widerDeep] true :=
  OpenClaim.laidByTextAt_later rfl rfl tie2 noOwnUnsafe
theorem optimizeKnows_row_tie : Rows.optimizeKnowsRow.laidByTextAt .later Tryz.pinned [.widerDeep] true :=
  OpenClaim.laidByTextAt_later rfl rfl tie2 noOwnUnsafe
theorem optimizeChecksUpto_row_tie : Rows.optimizeChecksUptoRow.laidByTextAt .later Tryz.pinned [.data, .widerDeep] true :=
  OpenClaim.laidByTextAt_later rfl rfl tie noOwnUnsafe
theorem optimizeStepsUpto_row_tie : Rows.optimizeStepsUptoRow.laidByTextAt .later Tryz.pinned [.data, .widerDeep] true :=
  OpenClaim.laidByTextAt_later rfl rfl tie noOwnUnsafe
theorem optimizeKeepsUpto_row_tie : Rows.optimizeKeepsUptoRow.laidByTextAt .later Tryz.pinned [.widerDeep] true :=
  OpenClaim.laidByTextAt_later rfl rfl tie2 noOwnUnsafe
theorem optimizeRunsUpto_row_tie : Rows.optimizeRunsUptoRow.laidByTextAt .later Tryz.pinned [.data, .widerDeep] true :=
  OpenClaim.laidByTextAt_later rfl rfl tie noOwnUnsafe
theorem optimizeKnowsUpto_row_tie : Rows.optimizeKnowsUptoRow.laidByTextAt .later Tryz.pinned [.widerDeep] true :=
  OpenClaim.laidByTextAt_later rfl rfl tie2 noOwnUnsafe
end Go.Proofs.YtbdbjpdlcemeaaaGreatDoor
