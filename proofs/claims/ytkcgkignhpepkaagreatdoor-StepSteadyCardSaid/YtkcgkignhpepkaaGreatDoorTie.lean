/-
  DERIVED. GIVEN WITH THE SEED: THE PROGRAM's TIES (one call each: nine closed facts by the kernel) AND EACH ROW's TIE, after the 31st guide's Derived/Test/Toyas{Tie, Card}.lean. No idea stands in it: it is a product of the set-up. Laid BY PROGRAM, IN A SANDBOX (cutbox-door.mjs). By AI agents, Wed Nov 11 2026. No macro, syntax, notation, axiom, sorry.
-/
import Derived.Test.YtkcgkignhpepkaaGreatDoorRows
import Derived.LaidByTextLater
import Derived.SevenTiedAt
import Derived.LaidSub
import Derived.LaidOnce
namespace Go.Proofs.YtkcgkignhpepkaaGreatDoor
open Go
set_option maxRecDepth 100000
theorem seatTie1 : Tryz.prog.laidByTextLater [("hoarstone/hoarstonekit.Bool", Rows.laid_hoarstone_hoarstonekit_Bool), ("hoarstone/hoarstonekit.List", Rows.laid_hoarstone_hoarstonekit_List), ("hoarstone/hoarstonekit.Pair", Rows.laid_hoarstone_hoarstonekit_Pair), ("hoarstone/hoarstonekit.Opt", Rows.laid_hoarstone_hoarstonekit_Opt), ("hoarstone/hoarstonekit.State", Rows.laid_hoarstone_hoarstonekit_State), ("hoarstone/hoarstonekit.Flip", Rows.laid_hoarstone_hoarstonekit_Flip), ("hoarstone/hoarstonekit.Abort", Rows.laid_hoarstone_hoarstonekit_Abort), ("hoarstone/hoarstonekit.Inc", Rows.laid_hoarstone_hoarstonekit_Inc), ("hoarstone/hoarstonekit.Add", Rows.laid_hoarstone_hoarstonekit_Add), ("hoarstone/hoarstonekit.Total", Rows.laid_hoarstone_hoarstonekit_Total), ("hoarstone/hoarstonekit.Down", Rows.laid_hoarstone_hoarstonekit_Down)] [.data, .data, .data, .data, .data, .data, .data, .data, .data, .data, .data] true :=
  Program.laidByTextLater_by_one 64 8 33 (by kernel_rfl) (by kernel_rfl) (by kernel_rfl) (by kernel_rfl) (by kernel_rfl) (by kernel_rfl) (fun _ _ => by kernel_rfl)
theorem noOwnUnsafe : Tryz.pinned.checked.prog.headLifts.contains "ownunsafe" = false := by kernel_rfl
theorem tie : Tryz.prog.laidByTextLater [("hoarstone/hoarstonekit.State", Rows.laid_hoarstone_hoarstonekit_State), ("hoarstone/hoarstonekit.Inc", Rows.laid_hoarstone_hoarstonekit_Inc)] [.data, .data] true :=
  Program.laidByTextLater.sub seatTie1 ["hoarstone/hoarstonekit.State", "hoarstone/hoarstonekit.Inc"] (by kernel_rfl) (by kernel_rfl)
theorem stepChecks_row_tie : Rows.stepChecksRow.laidByTextAt .later Tryz.pinned [.data, .data] true :=
  OpenClaim.laidByTextAt_later rfl rfl tie noOwnUnsafe
theorem stepSteps_row_tie : Rows.stepStepsRow.laidByTextAt .later Tryz.pinned [.data, .data] true :=
  OpenClaim.laidByTextAt_later rfl rfl tie noOwnUnsafe
theorem stepRuns_row_tie : Rows.stepRunsRow.laidByTextAt .later Tryz.pinned [.data, .data] true :=
  OpenClaim.laidByTextAt_later rfl rfl tie noOwnUnsafe
theorem tie2 : Tryz.prog.laidByTextLater [("hoarstone/hoarstonekit.Bool", Rows.laid_hoarstone_hoarstonekit_Bool), ("hoarstone/hoarstonekit.List", Rows.laid_hoarstone_hoarstonekit_List), ("hoarstone/hoarstonekit.Pair", Rows.laid_hoarstone_hoarstonekit_Pair), ("hoarstone/hoarstonekit.Opt", Rows.laid_hoarstone_hoarstonekit_Opt), ("hoarstone/hoarstonekit.State", Rows.laid_hoarstone_hoarstonekit_State), ("hoarstone/hoarstonekit.Flip", Rows.laid_hoarstone_hoarstonekit_Flip), ("hoarstone/hoarstonekit.Abort", Rows.laid_hoarstone_hoarstonekit_Abort), ("hoarstone/hoarstonekit.Inc", Rows.laid_hoarstone_hoarstonekit_Inc), ("hoarstone/hoarstonekit.Add", Rows.laid_hoarstone_hoarstonekit_Add), ("hoarstone/hoarstonekit.Total", Rows.laid_hoarstone_hoarstonekit_Total), ("hoarstone/hoarstonekit.Down", Rows.laid_hoarstone_hoarstonekit_Down)] [.data, .data, .data, .data, .data, .data, .data, .data, .data, .data, .data] true :=
  Program.laidByTextLater.sub seatTie1 ["hoarstone/hoarstonekit.Bool", "hoarstone/hoarstonekit.List", "hoarstone/hoarstonekit.Pair", "hoarstone/hoarstonekit.Opt", "hoarstone/hoarstonekit.State", "hoarstone/hoarstonekit.Flip", "hoarstone/hoarstonekit.Abort", "hoarstone/hoarstonekit.Inc", "hoarstone/hoarstonekit.Add", "hoarstone/hoarstonekit.Total", "hoarstone/hoarstonekit.Down"] (by kernel_rfl) (by kernel_rfl)
theorem stepResumed_row_tie : Rows.stepResumedRow.laidByTextAt .later Tryz.pinned [.data, .data, .data, .data, .data, .data, .data, .data, .data, .data, .data] true :=
  OpenClaim.laidByTextAt_later rfl rfl tie2 noOwnUnsafe
theorem stepSafe_row_tie : Rows.stepSafeRow.laidByTextAt .later Tryz.pinned [.data, .data, .data, .data, .data, .data, .data, .data, .data, .data, .data] true :=
  OpenClaim.laidByTextAt_later rfl rfl tie2 noOwnUnsafe
theorem stepWithin_row_tie : Rows.stepWithinRow.laidByTextAt .later Tryz.pinned [.data, .data, .data, .data, .data, .data, .data, .data, .data, .data, .data] true :=
  OpenClaim.laidByTextAt_later rfl rfl tie2 noOwnUnsafe
theorem stepCut_row_tie : Rows.stepCutRow.laidByTextAt .later Tryz.pinned [.data, .data, .data, .data, .data, .data, .data, .data, .data, .data, .data] true :=
  OpenClaim.laidByTextAt_later rfl rfl tie2 noOwnUnsafe
theorem stepSmall_row_tie : Rows.stepSmallRow.laidByTextAt .later Tryz.pinned [.data, .data, .data, .data, .data, .data, .data, .data, .data, .data, .data] true :=
  OpenClaim.laidByTextAt_later rfl rfl tie2 noOwnUnsafe
theorem stepSteady_row_tie : Rows.stepSteadyRow.laidByTextAt .later Tryz.pinned [.data, .data, .data, .data, .data, .data, .data, .data, .data, .data, .data] true :=
  OpenClaim.laidByTextAt_later rfl rfl tie2 noOwnUnsafe
theorem stepChecksUpto_row_tie : Rows.stepChecksUptoRow.laidByTextAt .later Tryz.pinned [.data, .data] true :=
  OpenClaim.laidByTextAt_later rfl rfl tie noOwnUnsafe
theorem stepResumedUpto_row_tie : Rows.stepResumedUptoRow.laidByTextAt .later Tryz.pinned [.data, .data, .data, .data, .data, .data, .data, .data, .data, .data, .data] true :=
  OpenClaim.laidByTextAt_later rfl rfl tie2 noOwnUnsafe
theorem stepSafeUpto_row_tie : Rows.stepSafeUptoRow.laidByTextAt .later Tryz.pinned [.data, .data, .data, .data, .data, .data, .data, .data, .data, .data, .data] true :=
  OpenClaim.laidByTextAt_later rfl rfl tie2 noOwnUnsafe
theorem stepWithinUpto_row_tie : Rows.stepWithinUptoRow.laidByTextAt .later Tryz.pinned [.data, .data, .data, .data, .data, .data, .data, .data, .data, .data, .data] true :=
  OpenClaim.laidByTextAt_later rfl rfl tie2 noOwnUnsafe
theorem stepStepsUpto_row_tie : Rows.stepStepsUptoRow.laidByTextAt .later Tryz.pinned [.data, .data] true :=
  OpenClaim.laidByTextAt_later rfl rfl tie noOwnUnsafe
theorem stepRunsUpto_row_tie : Rows.stepRunsUptoRow.laidByTextAt .later Tryz.pinned [.data, .data] true :=
  OpenClaim.laidByTextAt_later rfl rfl tie noOwnUnsafe
theorem stepCutUpto_row_tie : Rows.stepCutUptoRow.laidByTextAt .later Tryz.pinned [.data, .data, .data, .data, .data, .data, .data, .data, .data, .data, .data] true :=
  OpenClaim.laidByTextAt_later rfl rfl tie2 noOwnUnsafe
theorem stepSmallUpto_row_tie : Rows.stepSmallUptoRow.laidByTextAt .later Tryz.pinned [.data, .data, .data, .data, .data, .data, .data, .data, .data, .data, .data] true :=
  OpenClaim.laidByTextAt_later rfl rfl tie2 noOwnUnsafe
theorem stepSteadyUpto_row_tie : Rows.stepSteadyUptoRow.laidByTextAt .later Tryz.pinned [.data, .data, .data, .data, .data, .data, .data, .data, .data, .data, .data] true :=
  OpenClaim.laidByTextAt_later rfl rfl tie2 noOwnUnsafe
end Go.Proofs.YtkcgkignhpepkaaGreatDoor
