/-
  DERIVED. GIVEN WITH THE SEED: THE PROGRAM's TIES (one call each: nine closed facts by the kernel) AND EACH ROW's TIE, after the 31st guide's Derived/Test/Toyas{Tie, Card}.lean. No idea stands in it: it is a product of the set-up. Laid BY PROGRAM, IN A SANDBOX (cutbox-door.mjs). By AI agents, Wed Nov 11 2026. No macro, syntax, notation, axiom, sorry.
-/
import Derived.Test.YtkcgkignhpepkaaDoorRows
import Derived.LaidByTextLater
import Derived.SevenTiedAt
import Derived.LaidSub
import Derived.LaidOnce
namespace Go.Proofs.YtkcgkignhpepkaaDoor
open Go
set_option maxRecDepth 100000
theorem seatTie1 : Tryd.prog.laidByTextLater [("hoarstone/hoarstonekit.Bool", Rows.laid_hoarstone_hoarstonekit_Bool), ("hoarstone/hoarstonekit.List", Rows.laid_hoarstone_hoarstonekit_List), ("hoarstone/hoarstonekit.Pair", Rows.laid_hoarstone_hoarstonekit_Pair), ("hoarstone/hoarstonekit.Opt", Rows.laid_hoarstone_hoarstonekit_Opt), ("hoarstone/hoarstonekit.State", Rows.laid_hoarstone_hoarstonekit_State), ("hoarstone/hoarstonekit.Flip", Rows.laid_hoarstone_hoarstonekit_Flip), ("hoarstone/hoarstonekit.Abort", Rows.laid_hoarstone_hoarstonekit_Abort), ("hoarstone/hoarstonekit.Inc", Rows.laid_hoarstone_hoarstonekit_Inc), ("hoarstone/hoarstonekit.Add", Rows.laid_hoarstone_hoarstonekit_Add), ("hoarstone/hoarstonekit.Total", Rows.laid_hoarstone_hoarstonekit_Total), ("hoarstone/hoarstonekit.Down", Rows.laid_hoarstone_hoarstonekit_Down)] [.data, .data, .data, .data, .data, .data, .data, .data, .data, .data, .data] true :=
  Program.laidByTextLater_by_one 64 8 33 (by kernel_rfl) (by kernel_rfl) (by kernel_rfl) (by kernel_rfl) (by kernel_rfl) (by kernel_rfl) (fun _ _ => by kernel_rfl)
theorem noOwnUnsafe : Tryd.pinned.checked.prog.headLifts.contains "ownunsafe" = false := by kernel_rfl
theorem tie : Tryd.prog.laidByTextLater [("hoarstone/hoarstonekit.State", Rows.laid_hoarstone_hoarstonekit_State), ("hoarstone/hoarstonekit.Inc", Rows.laid_hoarstone_hoarstonekit_Inc)] [.data, .data] true :=
  Program.laidByTextLater.sub seatTie1 ["hoarstone/hoarstonekit.State", "hoarstone/hoarstonekit.Inc"] (by kernel_rfl) (by kernel_rfl)
theorem stepFits_row_tie : Rows.stepFitsRow.laidByTextAt .later Tryd.pinned [.data, .data] true :=
  OpenClaim.laidByTextAt_later rfl rfl tie noOwnUnsafe
theorem tie2 : Tryd.prog.laidByTextLater [("hoarstone/hoarstonekit.Bool", Rows.laid_hoarstone_hoarstonekit_Bool), ("hoarstone/hoarstonekit.List", Rows.laid_hoarstone_hoarstonekit_List), ("hoarstone/hoarstonekit.Pair", Rows.laid_hoarstone_hoarstonekit_Pair), ("hoarstone/hoarstonekit.Opt", Rows.laid_hoarstone_hoarstonekit_Opt), ("hoarstone/hoarstonekit.State", Rows.laid_hoarstone_hoarstonekit_State), ("hoarstone/hoarstonekit.Flip", Rows.laid_hoarstone_hoarstonekit_Flip), ("hoarstone/hoarstonekit.Abort", Rows.laid_hoarstone_hoarstonekit_Abort), ("hoarstone/hoarstonekit.Inc", Rows.laid_hoarstone_hoarstonekit_Inc), ("hoarstone/hoarstonekit.Add", Rows.laid_hoarstone_hoarstonekit_Add), ("hoarstone/hoarstonekit.Total", Rows.laid_hoarstone_hoarstonekit_Total), ("hoarstone/hoarstonekit.Down", Rows.laid_hoarstone_hoarstonekit_Down)] [.data, .data, .data, .data, .data, .data, .data, .data, .data, .data, .data] true :=
  Program.laidByTextLater.sub seatTie1 ["hoarstone/hoarstonekit.Bool", "hoarstone/hoarstonekit.List", "hoarstone/hoarstonekit.Pair", "hoarstone/hoarstonekit.Opt", "hoarstone/hoarstonekit.State", "hoarstone/hoarstonekit.Flip", "hoarstone/hoarstonekit.Abort", "hoarstone/hoarstonekit.Inc", "hoarstone/hoarstonekit.Add", "hoarstone/hoarstonekit.Total", "hoarstone/hoarstonekit.Down"] (by kernel_rfl) (by kernel_rfl)
theorem stepUsual_row_tie : Rows.stepUsualRow.laidByTextAt .later Tryd.pinned [.data, .data, .data, .data, .data, .data, .data, .data, .data, .data, .data] true :=
  OpenClaim.laidByTextAt_later rfl rfl tie2 noOwnUnsafe
theorem stepFitsUpto_row_tie : Rows.stepFitsUptoRow.laidByTextAt .later Tryd.pinned [.data, .data] true :=
  OpenClaim.laidByTextAt_later rfl rfl tie noOwnUnsafe
theorem stepUsualUpto_row_tie : Rows.stepUsualUptoRow.laidByTextAt .later Tryd.pinned [.data, .data, .data, .data, .data, .data, .data, .data, .data, .data, .data] true :=
  OpenClaim.laidByTextAt_later rfl rfl tie2 noOwnUnsafe
end Go.Proofs.YtkcgkignhpepkaaDoor
