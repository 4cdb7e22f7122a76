/-
  DERIVED. GIVEN WITH THE SEED: THE CARDS: each row of YtkcgkignhpepkaaDoorRows.lean that lists a variable, with what it lists TIED to the program's text (the seventh form; the later family's looks); each row that meets fmt, with fmt's text TOLD by the authors' own Lean function (tested against real Go, not proved from fmt's source: count such statements apart). THE CARD IS WHAT COUNTS. Prove the row's statement (the work); the ties are given (YtkcgkignhpepkaaDoorTie.lean); close each card by the builder's one call (the guide's Derived/Test/ToyasCard.lean, 'card_holds'). Laid BY PROGRAM, IN A SANDBOX (cutbox-door.mjs). By AI agents, Wed Nov 11 2026. No macro, syntax, notation, axiom, sorry.
-/
import Derived.Test.YtkcgkignhpepkaaDoorRows
import GoSem.ClaimSeven
namespace Go.Proofs.YtkcgkignhpepkaaDoor
namespace Rows

/-- THE TIED CARD OF 'hoarstonelaw16.StepFits'. -/
def stepFitsCard : Claim7 := { stood := { row := stepFitsRow, standIns := [], harness := (true, "8c411c86448552826154f0412b23f0f0836f27c459a6b86e477bd17ab44a9430"), looks := false }, kinds := [], alts := [], laidByText := true, laidKinds := [.data, .data], laidTests := true, laidLooks := .later }
def StepFitsCardSaid : Prop := Claim7.holds Tryd.pinned (.plain (OpenSpec.ofChange stepFitsSpec)) stepFitsCard

/-- THE TIED CARD OF 'hoarstonelaw16.StepUsual'. -/
def stepUsualCard : Claim7 := { stood := { row := stepUsualRow, standIns := [], harness := (true, "8c411c86448552826154f0412b23f0f0836f27c459a6b86e477bd17ab44a9430"), looks := false }, kinds := [], alts := [], laidByText := true, laidKinds := [.data, .data, .data, .data, .data, .data, .data, .data, .data, .data, .data], laidTests := true, laidLooks := .later }
def StepUsualCardSaid : Prop := Claim7.holds Tryd.pinned (.plain (OpenSpec.ofChange stepUsualSpec)) stepUsualCard

/-- THE SECOND FORM's CARD OF 'hoarstonelaw16.StepFits'. -/
def stepFitsUptoCard : Claim7 := { stood := { row := stepFitsUptoRow, standIns := [], harness := (true, "8c411c86448552826154f0412b23f0f0836f27c459a6b86e477bd17ab44a9430"), looks := false }, kinds := [], alts := [], laidByText := true, laidKinds := [.data, .data], laidTests := true, laidLooks := .later }
def StepFitsUptoCardSaid : Prop := Claim7.holds Tryd.pinned (.plain (OpenSpec.upto stepFitsSpec)) stepFitsUptoCard

/-- THE SECOND FORM's CARD OF 'hoarstonelaw16.StepUsual'. -/
def stepUsualUptoCard : Claim7 := { stood := { row := stepUsualUptoRow, standIns := [], harness := (true, "8c411c86448552826154f0412b23f0f0836f27c459a6b86e477bd17ab44a9430"), looks := false }, kinds := [], alts := [], laidByText := true, laidKinds := [.data, .data, .data, .data, .data, .data, .data, .data, .data, .data, .data], laidTests := true, laidLooks := .later }
def StepUsualUptoCardSaid : Prop := Claim7.holds Tryd.pinned (.plain (OpenSpec.upto stepUsualSpec)) stepUsualUptoCard
end Rows
end Go.Proofs.YtkcgkignhpepkaaDoor
