/-
  DERIVED. GIVEN WITH THE SEED: THE CARDS: each row of YtkcgkignhpepkaaGreatDoorRows.lean that lists a variable, with what it lists TIED to the program's text (the seventh form; the later family's looks); each row that meets fmt, with fmt's text TOLD by the authors' own Lean function (tested against real Go, not proved from fmt's source: count such statements apart). THE CARD IS WHAT COUNTS. Prove the row's statement (the work); the ties are given (YtkcgkignhpepkaaGreatDoorTie.lean); close each card by the builder's one call (the guide's Derived/Test/ToyasCard.lean, 'card_holds'). Laid BY PROGRAM, IN A SANDBOX (cutbox-door.mjs). By AI agents, Wed Nov 11 2026. No macro, syntax, notation, axiom, sorry.
-/
import Derived.Test.YtkcgkignhpepkaaGreatDoorRows
import GoSem.ClaimSeven
namespace Go.Proofs.YtkcgkignhpepkaaGreatDoor
namespace Rows

/-- THE TIED CARD OF 'hoarstonelaw16.StepChecks'. -/
def stepChecksCard : Claim7 := { stood := { row := stepChecksRow, standIns := [], harness := (true, "e1440fdf2e566a241bc441784bd8cfbf115f950acd235b8713037951c88f4ebb"), looks := false }, kinds := [], alts := [], laidByText := true, laidKinds := [.data, .data], laidTests := true, laidLooks := .later }
def StepChecksCardSaid : Prop := Claim7.holds Tryz.pinned (.plain (OpenSpec.ofChange stepChecksSpec)) stepChecksCard

/-- THE TIED CARD OF 'hoarstonelaw16.StepResumed'. -/
def stepResumedCard : Claim7 := { stood := { row := stepResumedRow, standIns := [], harness := (true, "e1440fdf2e566a241bc441784bd8cfbf115f950acd235b8713037951c88f4ebb"), looks := false }, kinds := [], alts := [], laidByText := true, laidKinds := [.data, .data, .data, .data, .data, .data, .data, .data, .data, .data, .data], laidTests := true, laidLooks := .later }
def StepResumedCardSaid : Prop := Claim7.holds Tryz.pinned (.plain (OpenSpec.ofChange stepResumedSpec)) stepResumedCard

/-- THE TIED CARD OF 'hoarstonelaw16.StepSafe'. -/
def stepSafeCard : Claim7 := { stood := { row := stepSafeRow, standIns := [], harness := (true, "e1440fdf2e566a241bc441784bd8cfbf115f950acd235b8713037951c88f4ebb"), looks := false }, kinds := [], alts := [], laidByText := true, laidKinds := [.data, .data, .data, .data, .data, .data, .data, .data, .data, .data, .data], laidTests := true, laidLooks := .later }
def StepSafeCardSaid : Prop := Claim7.holds Tryz.pinned (.plain (OpenSpec.ofChange stepSafeSpec)) stepSafeCard

/-- THE TIED CARD OF 'hoarstonelaw16.StepWithin'. -/
def stepWithinCard : Claim7 := { stood := { row := stepWithinRow, standIns := [], harness := (true, "e1440fdf2e566a241bc441784bd8cfbf115f950acd235b8713037951c88f4ebb"), looks := false }, kinds := [], alts := [], laidByText := true, laidKinds := [.data, .data, .data, .data, .data, .data, .data, .data, .data, .data, .data], laidTests := true, laidLooks := .later }
def StepWithinCardSaid : Prop := Claim7.holds Tryz.pinned (.plain (OpenSpec.ofChange stepWithinSpec)) stepWithinCard

/-- THE TIED CARD OF 'hoarstonelaw16.StepSteps'. -/
def stepStepsCard : Claim7 := { stood := { row := stepStepsRow, standIns := [], harness := (true, "e1440fdf2e566a241bc441784bd8cfbf115f950acd235b8713037951c88f4ebb"), looks := false }, kinds := [], alts := [], laidByText := true, laidKinds := [.data, .data], laidTests := true, laidLooks := .later }
def StepStepsCardSaid : Prop := Claim7.holds Tryz.pinned (.plain (OpenSpec.ofChange stepStepsSpec)) stepStepsCard

/-- THE TIED CARD OF 'hoarstonelaw16.StepRuns'. -/
def stepRunsCard : Claim7 := { stood := { row := stepRunsRow, standIns := [], harness := (true, "e1440fdf2e566a241bc441784bd8cfbf115f950acd235b8713037951c88f4ebb"), looks := false }, kinds := [], alts := [], laidByText := true, laidKinds := [.data, .data], laidTests := true, laidLooks := .later }
def StepRunsCardSaid : Prop := Claim7.holds Tryz.pinned (.plain (OpenSpec.ofChange stepRunsSpec)) stepRunsCard

/-- THE TIED CARD OF 'hoarstonelaw16.StepCut'. -/
def stepCutCard : Claim7 := { stood := { row := stepCutRow, standIns := [], harness := (true, "e1440fdf2e566a241bc441784bd8cfbf115f950acd235b8713037951c88f4ebb"), looks := false }, kinds := [], alts := [], laidByText := true, laidKinds := [.data, .data, .data, .data, .data, .data, .data, .data, .data, .data, .data], laidTests := true, laidLooks := .later }
def StepCutCardSaid : Prop := Claim7.holds Tryz.pinned (.plain (OpenSpec.ofChange stepCutSpec)) stepCutCard

/-- THE TIED CARD OF 'hoarstonelaw16.StepSmall'. -/
def stepSmallCard : Claim7 := { stood := { row := stepSmallRow, standIns := [], harness := (true, "e1440fdf2e566a241bc441784bd8cfbf115f950acd235b8713037951c88f4ebb"), looks := false }, kinds := [], alts := [], laidByText := true, laidKinds := [.data, .data, .data, .data, .data, .data, .data, .data, .data, .data, .data], laidTests := true, laidLooks := .later }
def StepSmallCardSaid : Prop := Claim7.holds Tryz.pinned (.plain (OpenSpec.ofChange stepSmallSpec)) stepSmallCard

/-- THE TIED CARD OF 'hoarstonelaw16.StepSteady'. -/
def stepSteadyCard : Claim7 := { stood := { row := stepSteadyRow, standIns := [], harness := (true, "e1440fdf2e566a241bc441784bd8cfbf115f950acd235b8713037951c88f4ebb"), looks := false }, kinds := [], alts := [], laidByText := true, laidKinds := [.data, .data, .data, .data, .data, .data, .data, .data, .data, .data, .data], laidTests := true, laidLooks := .later }
def StepSteadyCardSaid : Prop := Claim7.holds Tryz.pinned (.plain (OpenSpec.ofChange stepSteadySpec)) stepSteadyCard

/-- THE SECOND FORM's CARD OF 'hoarstonelaw16.StepChecks'. -/
def stepChecksUptoCard : Claim7 := { stood := { row := stepChecksUptoRow, standIns := [], harness := (true, "e1440fdf2e566a241bc441784bd8cfbf115f950acd235b8713037951c88f4ebb"), looks := false }, kinds := [], alts := [], laidByText := true, laidKinds := [.data, .data], laidTests := true, laidLooks := .later }
def StepChecksUptoCardSaid : Prop := Claim7.holds Tryz.pinned (.plain (OpenSpec.upto stepChecksSpec)) stepChecksUptoCard

/-- THE SECOND FORM's CARD OF 'hoarstonelaw16.StepResumed'. -/
def stepResumedUptoCard : Claim7 := { stood := { row := stepResumedUptoRow, standIns := [], harness := (true, "e1440fdf2e566a241bc441784bd8cfbf115f950acd235b8713037951c88f4ebb"), looks := false }, kinds := [], alts := [], laidByText := true, laidKinds := [.data, .data, .data, .data, .data, .data, .data, .data, .data, .data, .data], laidTests := true, laidLooks := .later }
def StepResumedUptoCardSaid : Prop := Claim7.holds Tryz.pinned (.plain (OpenSpec.upto stepResumedSpec)) stepResumedUptoCard

/-- THE SECOND FORM's CARD OF 'hoarstonelaw16.StepSafe'. -/
def stepSafeUptoCard : Claim7 := { stood := { row := stepSafeUptoRow, standIns := [], harness := (true, "e1440fdf2e566a241bc441784bd8cfbf115f950acd235b8713037951c88f4ebb"), looks := false }, kinds := [], alts := [], laidByText := true, laidKinds := [.data, .data, .data, .data, .data, .data, .data, .data, .data, .data, .data], laidTests := true, laidLooks := .later }
def StepSafeUptoCardSaid : Prop := Claim7.holds Tryz.pinned (.plain (OpenSpec.upto stepSafeSpec)) stepSafeUptoCard

/-- THE SECOND FORM's CARD OF 'hoarstonelaw16.StepWithin'. -/
def stepWithinUptoCard : Claim7 := { stood := { row := stepWithinUptoRow, standIns := [], harness := (true, "e1440fdf2e566a241bc441784bd8cfbf115f950acd235b8713037951c88f4ebb"), looks := false }, kinds := [], alts := [], laidByText := true, laidKinds := [.data, .data, .data, .data, .data, .data, .data, .data, .data, .data, .data], laidTests := true, laidLooks := .later }
def StepWithinUptoCardSaid : Prop := Claim7.holds Tryz.pinned (.plain (OpenSpec.upto stepWithinSpec)) stepWithinUptoCard

/-- THE SECOND FORM's CARD OF 'hoarstonelaw16.StepSteps'. -/
def stepStepsUptoCard : Claim7 := { stood := { row := stepStepsUptoRow, standIns := [], harness := (true, "e1440fdf2e566a241bc441784bd8cfbf115f950acd235b8713037951c88f4ebb"), looks := false }, kinds := [], alts := [], laidByText := true, laidKinds := [.data, .data], laidTests := true, laidLooks := .later }
def StepStepsUptoCardSaid : Prop := Claim7.holds Tryz.pinned (.plain (OpenSpec.upto stepStepsSpec)) stepStepsUptoCard

/-- THE SECOND FORM's CARD OF 'hoarstonelaw16.StepRuns'. -/
def stepRunsUptoCard : Claim7 := { stood := { row := stepRunsUptoRow, standIns := [], harness := (true, "e1440fdf2e566a241bc441784bd8cfbf115f950acd235b8713037951c88f4ebb"), looks := false }, kinds := [], alts := [], laidByText := true, laidKinds := [.data, .data], laidTests := true, laidLooks := .later }
def StepRunsUptoCardSaid : Prop := Claim7.holds Tryz.pinned (.plain (OpenSpec.upto stepRunsSpec)) stepRunsUptoCard

/-- THE SECOND FORM's CARD OF 'hoarstonelaw16.StepCut'. -/
def stepCutUptoCard : Claim7 := { stood := { row := stepCutUptoRow, standIns := [], harness := (true, "e1440fdf2e566a241bc441784bd8cfbf115f950acd235b8713037951c88f4ebb"), looks := false }, kinds := [], alts := [], laidByText := true, laidKinds := [.data, .data, .data, .data, .data, .data, .data, .data, .data, .data, .data], laidTests := true, laidLooks := .later }
def StepCutUptoCardSaid : Prop := Claim7.holds Tryz.pinned (.plain (OpenSpec.upto stepCutSpec)) stepCutUptoCard

/-- THE SECOND FORM's CARD OF 'hoarstonelaw16.StepSmall'. -/
def stepSmallUptoCard : Claim7 := { stood := { row := stepSmallUptoRow, standIns := [], harness := (true, "e1440fdf2e566a241bc441784bd8cfbf115f950acd235b8713037951c88f4ebb"), looks := false }, kinds := [], alts := [], laidByText := true, laidKinds := [.data, .data, .data, .data, .data, .data, .data, .data, .data, .data, .data], laidTests := true, laidLooks := .later }
def StepSmallUptoCardSaid : Prop := Claim7.holds Tryz.pinned (.plain (OpenSpec.upto stepSmallSpec)) stepSmallUptoCard

/-- THE SECOND FORM's CARD OF 'hoarstonelaw16.StepSteady'. -/
def stepSteadyUptoCard : Claim7 := { stood := { row := stepSteadyUptoRow, standIns := [], harness := (true, "e1440fdf2e566a241bc441784bd8cfbf115f950acd235b8713037951c88f4ebb"), looks := false }, kinds := [], alts := [], laidByText := true, laidKinds := [.data, .data, .data, .data, .data, .data, .data, .data, .data, .data, .data], laidTests := true, laidLooks := .later }
def StepSteadyUptoCardSaid : Prop := Claim7.holds Tryz.pinned (.plain (OpenSpec.upto stepSteadySpec)) stepSteadyUptoCard
end Rows
end Go.Proofs.YtkcgkignhpepkaaGreatDoor
