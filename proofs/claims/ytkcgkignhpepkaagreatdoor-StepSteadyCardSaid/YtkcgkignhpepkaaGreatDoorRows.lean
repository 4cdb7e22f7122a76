/-
  NARROWER THAN 'FOR EVERY INPUT', by the rows' own cells (each row's printed sentence says how): StepChecks: loops, laid · StepResumed: laid · StepSafe: laid · StepWithin: laid · StepSteps: loops, laid · StepRuns: loops, laid · StepCut: laid · StepSmall: laid · StepSteady: laid.
  DERIVED. THE GIVEN ROWS OF THIS SEAT. 9 by the template 'for every input the law returns true; each argument reads behind the call as it read before'; 0 by the template 'total and deterministic' (their statements: YtkcgkignhpepkaaGreatDoorTotals.lean).
  GIVEN WITH THE SEED: the statements are not yours to turn. If you find one false, say at which input.
  Laid BY PROGRAM, IN A SANDBOX (cutbox-rows.mjs): the forced cells as the released guide's own fill.sh prints them over the translation 87edd15e24affefd… (all of the seat's roots in one cut). By AI agents, Wed Nov 11 2026. No macro, syntax, notation, axiom, sorry.
-/
import Derived.Test.YtkcgkignhpepkaaGreatDoorChecked
import GoSem.Claim
import GoSem.ClaimJoined
import GoSem.ClaimMapViews
import Derived.JoinedTies
import Derived.KernelRfl
namespace Go.Proofs.YtkcgkignhpepkaaGreatDoor
/- THE CELL 'sum', in the pinned program and in every row, IS THE sha256 OF THE DUMP (.gsa) THAT YtkcgkignhpepkaaGreatDoorProg.lean LOADS. Nothing in Lean hashes anything: it is a label: what it is worth is what the hold of that sum in a sandbox is worth. -/
noncomputable def Tryz.pinned : Pinned := { name := "ytkcgkignhpepkaagreatdoor", sum := "87edd15e24affefd7174afebee11fdbcaf3cfa6d1a3319e1b81667040e8a9b4c", checked := Tryz.checked }
namespace Rows
def none {H : Type} : Left H := { results := [], args := [] }

/- WHAT THE LISTED PACKAGE-LEVEL VARIABLES READ AS WHEN THE CALL BEGINS. Each datum BY PROGRAM (the guide's laid-datum.mjs) off the statement by which the dump's own 'gosem.cut.vars' lays the variable. In a bare row this is a premise. The card (YtkcgkignhpepkaaGreatDoorCards.lean) ties it to the program's text. -/
def laid_hoarstone_hoarstonekit_State {H : Type} : DataW H := .agg [.lit (.int .u8 11), .lit (.int .u8 0), .lit (.int .u8 0), .lit (.int .u8 0), .lit (.int .u8 0), .lit (.int .u8 0), .lit (.int .u8 0), .lit (.int .u8 0), .lit (.int .u8 0), .lit (.int .u8 0), .lit (.int .u8 0), .lit (.int .u8 0), .lit (.int .u8 0), .lit (.int .u8 0), .lit (.int .u8 0), .lit (.int .u8 0), .lit (.int .u8 0), .lit (.int .u8 0), .lit (.int .u8 0), .lit (.int .u8 0), .lit (.int .u8 0), .lit (.int .u8 0), .lit (.int .u8 0), .lit (.int .u8 0), .lit (.int .u8 0), .lit (.int .u8 0), .lit (.int .u8 0), .lit (.int .u8 0), .lit (.int .u8 0), .lit (.int .u8 0), .lit (.int .u8 0), .lit (.int .u8 0)]
def laid_hoarstone_hoarstonekit_Inc {H : Type} : DataW H := .agg [.lit (.int .u8 21), .lit (.int .u8 0), .lit (.int .u8 0), .lit (.int .u8 0), .lit (.int .u8 0), .lit (.int .u8 0), .lit (.int .u8 0), .lit (.int .u8 0), .lit (.int .u8 0), .lit (.int .u8 0), .lit (.int .u8 0), .lit (.int .u8 0), .lit (.int .u8 0), .lit (.int .u8 0), .lit (.int .u8 0), .lit (.int .u8 0), .lit (.int .u8 0), .lit (.int .u8 0), .lit (.int .u8 0), .lit (.int .u8 0), .lit (.int .u8 0), .lit (.int .u8 0), .lit (.int .u8 0), .lit (.int .u8 0), .lit (.int .u8 0), .lit (.int .u8 0), .lit (.int .u8 0), .lit (.int .u8 0), .lit (.int .u8 0), .lit (.int .u8 0), .lit (.int .u8 0), .lit (.int .u8 0)]
def laid_hoarstone_hoarstonekit_Bool {H : Type} : DataW H := .agg [.lit (.int .u8 1), .lit (.int .u8 0), .lit (.int .u8 0), .lit (.int .u8 0), .lit (.int .u8 0), .lit (.int .u8 0), .lit (.int .u8 0), .lit (.int .u8 0), .lit (.int .u8 0), .lit (.int .u8 0), .lit (.int .u8 0), .lit (.int .u8 0), .lit (.int .u8 0), .lit (.int .u8 0), .lit (.int .u8 0), .lit (.int .u8 0), .lit (.int .u8 0), .lit (.int .u8 0), .lit (.int .u8 0), .lit (.int .u8 0), .lit (.int .u8 0), .lit (.int .u8 0), .lit (.int .u8 0), .lit (.int .u8 0), .lit (.int .u8 0), .lit (.int .u8 0), .lit (.int .u8 0), .lit (.int .u8 0), .lit (.int .u8 0), .lit (.int .u8 0), .lit (.int .u8 0), .lit (.int .u8 0)]
def laid_hoarstone_hoarstonekit_List {H : Type} : DataW H := .agg [.lit (.int .u8 2), .lit (.int .u8 0), .lit (.int .u8 0), .lit (.int .u8 0), .lit (.int .u8 0), .lit (.int .u8 0), .lit (.int .u8 0), .lit (.int .u8 0), .lit (.int .u8 0), .lit (.int .u8 0), .lit (.int .u8 0), .lit (.int .u8 0), .lit (.int .u8 0), .lit (.int .u8 0), .lit (.int .u8 0), .lit (.int .u8 0), .lit (.int .u8 0), .lit (.int .u8 0), .lit (.int .u8 0), .lit (.int .u8 0), .lit (.int .u8 0), .lit (.int .u8 0), .lit (.int .u8 0), .lit (.int .u8 0), .lit (.int .u8 0), .lit (.int .u8 0), .lit (.int .u8 0), .lit (.int .u8 0), .lit (.int .u8 0), .lit (.int .u8 0), .lit (.int .u8 0), .lit (.int .u8 0)]
def laid_hoarstone_hoarstonekit_Pair {H : Type} : DataW H := .agg [.lit (.int .u8 3), .lit (.int .u8 0), .lit (.int .u8 0), .lit (.int .u8 0), .lit (.int .u8 0), .lit (.int .u8 0), .lit (.int .u8 0), .lit (.int .u8 0), .lit (.int .u8 0), .lit (.int .u8 0), .lit (.int .u8 0), .lit (.int .u8 0), .lit (.int .u8 0), .lit (.int .u8 0), .lit (.int .u8 0), .lit (.int .u8 0), .lit (.int .u8 0), .lit (.int .u8 0), .lit (.int .u8 0), .lit (.int .u8 0), .lit (.int .u8 0), .lit (.int .u8 0), .lit (.int .u8 0), .lit (.int .u8 0), .lit (.int .u8 0), .lit (.int .u8 0), .lit (.int .u8 0), .lit (.int .u8 0), .lit (.int .u8 0), .lit (.int .u8 0), .lit (.int .u8 0), .lit (.int .u8 0)]
def laid_hoarstone_hoarstonekit_Opt {H : Type} : DataW H := .agg [.lit (.int .u8 4), .lit (.int .u8 0), .lit (.int .u8 0), .lit (.int .u8 0), .lit (.int .u8 0), .lit (.int .u8 0), .lit (.int .u8 0), .lit (.int .u8 0), .lit (.int .u8 0), .lit (.int .u8 0), .lit (.int .u8 0), .lit (.int .u8 0), .lit (.int .u8 0), .lit (.int .u8 0), .lit (.int .u8 0), .lit (.int .u8 0), .lit (.int .u8 0), .lit (.int .u8 0), .lit (.int .u8 0), .lit (.int .u8 0), .lit (.int .u8 0), .lit (.int .u8 0), .lit (.int .u8 0), .lit (.int .u8 0), .lit (.int .u8 0), .lit (.int .u8 0), .lit (.int .u8 0), .lit (.int .u8 0), .lit (.int .u8 0), .lit (.int .u8 0), .lit (.int .u8 0), .lit (.int .u8 0)]
def laid_hoarstone_hoarstonekit_Flip {H : Type} : DataW H := .agg [.lit (.int .u8 12), .lit (.int .u8 0), .lit (.int .u8 0), .lit (.int .u8 0), .lit (.int .u8 0), .lit (.int .u8 0), .lit (.int .u8 0), .lit (.int .u8 0), .lit (.int .u8 0), .lit (.int .u8 0), .lit (.int .u8 0), .lit (.int .u8 0), .lit (.int .u8 0), .lit (.int .u8 0), .lit (.int .u8 0), .lit (.int .u8 0), .lit (.int .u8 0), .lit (.int .u8 0), .lit (.int .u8 0), .lit (.int .u8 0), .lit (.int .u8 0), .lit (.int .u8 0), .lit (.int .u8 0), .lit (.int .u8 0), .lit (.int .u8 0), .lit (.int .u8 0), .lit (.int .u8 0), .lit (.int .u8 0), .lit (.int .u8 0), .lit (.int .u8 0), .lit (.int .u8 0), .lit (.int .u8 0)]
def laid_hoarstone_hoarstonekit_Abort {H : Type} : DataW H := .agg [.lit (.int .u8 13), .lit (.int .u8 0), .lit (.int .u8 0), .lit (.int .u8 0), .lit (.int .u8 0), .lit (.int .u8 0), .lit (.int .u8 0), .lit (.int .u8 0), .lit (.int .u8 0), .lit (.int .u8 0), .lit (.int .u8 0), .lit (.int .u8 0), .lit (.int .u8 0), .lit (.int .u8 0), .lit (.int .u8 0), .lit (.int .u8 0), .lit (.int .u8 0), .lit (.int .u8 0), .lit (.int .u8 0), .lit (.int .u8 0), .lit (.int .u8 0), .lit (.int .u8 0), .lit (.int .u8 0), .lit (.int .u8 0), .lit (.int .u8 0), .lit (.int .u8 0), .lit (.int .u8 0), .lit (.int .u8 0), .lit (.int .u8 0), .lit (.int .u8 0), .lit (.int .u8 0), .lit (.int .u8 0)]
def laid_hoarstone_hoarstonekit_Add {H : Type} : DataW H := .agg [.lit (.int .u8 22), .lit (.int .u8 0), .lit (.int .u8 0), .lit (.int .u8 0), .lit (.int .u8 0), .lit (.int .u8 0), .lit (.int .u8 0), .lit (.int .u8 0), .lit (.int .u8 0), .lit (.int .u8 0), .lit (.int .u8 0), .lit (.int .u8 0), .lit (.int .u8 0), .lit (.int .u8 0), .lit (.int .u8 0), .lit (.int .u8 0), .lit (.int .u8 0), .lit (.int .u8 0), .lit (.int .u8 0), .lit (.int .u8 0), .lit (.int .u8 0), .lit (.int .u8 0), .lit (.int .u8 0), .lit (.int .u8 0), .lit (.int .u8 0), .lit (.int .u8 0), .lit (.int .u8 0), .lit (.int .u8 0), .lit (.int .u8 0), .lit (.int .u8 0), .lit (.int .u8 0), .lit (.int .u8 0)]
def laid_hoarstone_hoarstonekit_Total {H : Type} : DataW H := .agg [.lit (.int .u8 23), .lit (.int .u8 0), .lit (.int .u8 0), .lit (.int .u8 0), .lit (.int .u8 0), .lit (.int .u8 0), .lit (.int .u8 0), .lit (.int .u8 0), .lit (.int .u8 0), .lit (.int .u8 0), .lit (.int .u8 0), .lit (.int .u8 0), .lit (.int .u8 0), .lit (.int .u8 0), .lit (.int .u8 0), .lit (.int .u8 0), .lit (.int .u8 0), .lit (.int .u8 0), .lit (.int .u8 0), .lit (.int .u8 0), .lit (.int .u8 0), .lit (.int .u8 0), .lit (.int .u8 0), .lit (.int .u8 0), .lit (.int .u8 0), .lit (.int .u8 0), .lit (.int .u8 0), .lit (.int .u8 0), .lit (.int .u8 0), .lit (.int .u8 0), .lit (.int .u8 0), .lit (.int .u8 0)]
def laid_hoarstone_hoarstonekit_Down {H : Type} : DataW H := .agg [.lit (.int .u8 24), .lit (.int .u8 0), .lit (.int .u8 0), .lit (.int .u8 0), .lit (.int .u8 0), .lit (.int .u8 0), .lit (.int .u8 0), .lit (.int .u8 0), .lit (.int .u8 0), .lit (.int .u8 0), .lit (.int .u8 0), .lit (.int .u8 0), .lit (.int .u8 0), .lit (.int .u8 0), .lit (.int .u8 0), .lit (.int .u8 0), .lit (.int .u8 0), .lit (.int .u8 0), .lit (.int .u8 0), .lit (.int .u8 0), .lit (.int .u8 0), .lit (.int .u8 0), .lit (.int .u8 0), .lit (.int .u8 0), .lit (.int .u8 0), .lit (.int .u8 0), .lit (.int .u8 0), .lit (.int .u8 0), .lit (.int .u8 0), .lit (.int .u8 0), .lit (.int .u8 0), .lit (.int .u8 0)]

/-- 'hoarstonelaw16.StepChecks': WHATEVER THE INPUT: true; the input reads as it did. -/
def stepChecksSpec : ChangeSpec := { name := "stepChecks", fn := fun _ => fun
  | [d1, d2] => { results := [.lit (.bool true)], args := [d1, d2] }
  | _ => none }
def stepChecksRow : OpenClaim := { program := "ytkcgkignhpepkaagreatdoor", sum := "87edd15e24affefd7174afebee11fdbcaf3cfa6d1a3319e1b81667040e8a9b4c", func := "hoarstone/hoarstonelaw16.StepChecks", spec := "stepChecks", unfollowed := true, recurses := true, named := ["hoarstone/hoarstonekit.Inc", "hoarstone/hoarstonekit.State"], loops := true, plainKeys := false, apart := false, laid := [("hoarstone/hoarstonekit.State", laid_hoarstone_hoarstonekit_State), ("hoarstone/hoarstonekit.Inc", laid_hoarstone_hoarstonekit_Inc)] }
def StepChecksSaid : Prop := stepChecksRow.holds Tryz.pinned (OpenSpec.ofChange stepChecksSpec)

/-- ITS FALSE NEIGHBOUR: 'it returns false'. Refute it at one input. -/
def stepChecksWrong : ChangeSpec := { name := "stepChecks", fn := fun _ => fun
  | [d1, d2] => { results := [.lit (.bool false)], args := [d1, d2] }
  | _ => none }
def StepChecksWrongFalsely : Prop := stepChecksRow.holds Tryz.pinned (OpenSpec.ofChange stepChecksWrong)

/-- 'hoarstonelaw16.StepResumed': WHATEVER THE INPUT: true; the input reads as it did. -/
def stepResumedSpec : ChangeSpec := { name := "stepResumed", fn := fun _ => fun
  | [d1, d2] => { results := [.lit (.bool true)], args := [d1, d2] }
  | _ => none }
def stepResumedRow : OpenClaim := { program := "ytkcgkignhpepkaagreatdoor", sum := "87edd15e24affefd7174afebee11fdbcaf3cfa6d1a3319e1b81667040e8a9b4c", func := "hoarstone/hoarstonelaw16.StepResumed", spec := "stepResumed", unfollowed := true, recurses := true, named := ["hoarstone/hoarstonekit.State", "hoarstone/hoarstonekit.Bool", "hoarstone/hoarstonekit.List", "hoarstone/hoarstonekit.Pair", "hoarstone/hoarstonekit.Opt", "hoarstone/hoarstonekit.Flip", "hoarstone/hoarstonekit.Abort", "hoarstone/hoarstonekit.Inc", "hoarstone/hoarstonekit.Add", "hoarstone/hoarstonekit.Total", "hoarstone/hoarstonekit.Down"], plainKeys := false, apart := false, laid := [("hoarstone/hoarstonekit.Bool", laid_hoarstone_hoarstonekit_Bool), ("hoarstone/hoarstonekit.List", laid_hoarstone_hoarstonekit_List), ("hoarstone/hoarstonekit.Pair", laid_hoarstone_hoarstonekit_Pair), ("hoarstone/hoarstonekit.Opt", laid_hoarstone_hoarstonekit_Opt), ("hoarstone/hoarstonekit.State", laid_hoarstone_hoarstonekit_State), ("hoarstone/hoarstonekit.Flip", laid_hoarstone_hoarstonekit_Flip), ("hoarstone/hoarstonekit.Abort", laid_hoarstone_hoarstonekit_Abort), ("hoarstone/hoarstonekit.Inc", laid_hoarstone_hoarstonekit_Inc), ("hoarstone/hoarstonekit.Add", laid_hoarstone_hoarstonekit_Add), ("hoarstone/hoarstonekit.Total", laid_hoarstone_hoarstonekit_Total), ("hoarstone/hoarstonekit.Down", laid_hoarstone_hoarstonekit_Down)] }
def StepResumedSaid : Prop := stepResumedRow.holds Tryz.pinned (OpenSpec.ofChange stepResumedSpec)

/-- ITS FALSE NEIGHBOUR: 'it returns false'. Refute it at one input. -/
def stepResumedWrong : ChangeSpec := { name := "stepResumed", fn := fun _ => fun
  | [d1, d2] => { results := [.lit (.bool false)], args := [d1, d2] }
  | _ => none }
def StepResumedWrongFalsely : Prop := stepResumedRow.holds Tryz.pinned (OpenSpec.ofChange stepResumedWrong)

/-- 'hoarstonelaw16.StepSafe': WHATEVER THE INPUT: true; the input reads as it did. -/
def stepSafeSpec : ChangeSpec := { name := "stepSafe", fn := fun _ => fun
  | [d1, d2] => { results := [.lit (.bool true)], args := [d1, d2] }
  | _ => none }
def stepSafeRow : OpenClaim := { program := "ytkcgkignhpepkaagreatdoor", sum := "87edd15e24affefd7174afebee11fdbcaf3cfa6d1a3319e1b81667040e8a9b4c", func := "hoarstone/hoarstonelaw16.StepSafe", spec := "stepSafe", unfollowed := true, recurses := true, named := ["hoarstone/hoarstonekit.List", "hoarstone/hoarstonekit.Opt", "hoarstone/hoarstonekit.Pair", "hoarstone/hoarstonekit.Bool", "hoarstone/hoarstonekit.Flip", "hoarstone/hoarstonekit.State", "hoarstone/hoarstonekit.Abort", "hoarstone/hoarstonekit.Inc", "hoarstone/hoarstonekit.Add", "hoarstone/hoarstonekit.Total", "hoarstone/hoarstonekit.Down"], plainKeys := false, apart := false, laid := [("hoarstone/hoarstonekit.Bool", laid_hoarstone_hoarstonekit_Bool), ("hoarstone/hoarstonekit.List", laid_hoarstone_hoarstonekit_List), ("hoarstone/hoarstonekit.Pair", laid_hoarstone_hoarstonekit_Pair), ("hoarstone/hoarstonekit.Opt", laid_hoarstone_hoarstonekit_Opt), ("hoarstone/hoarstonekit.State", laid_hoarstone_hoarstonekit_State), ("hoarstone/hoarstonekit.Flip", laid_hoarstone_hoarstonekit_Flip), ("hoarstone/hoarstonekit.Abort", laid_hoarstone_hoarstonekit_Abort), ("hoarstone/hoarstonekit.Inc", laid_hoarstone_hoarstonekit_Inc), ("hoarstone/hoarstonekit.Add", laid_hoarstone_hoarstonekit_Add), ("hoarstone/hoarstonekit.Total", laid_hoarstone_hoarstonekit_Total), ("hoarstone/hoarstonekit.Down", laid_hoarstone_hoarstonekit_Down)] }
def StepSafeSaid : Prop := stepSafeRow.holds Tryz.pinned (OpenSpec.ofChange stepSafeSpec)

/-- ITS FALSE NEIGHBOUR: 'it returns false'. Refute it at one input. -/
def stepSafeWrong : ChangeSpec := { name := "stepSafe", fn := fun _ => fun
  | [d1, d2] => { results := [.lit (.bool false)], args := [d1, d2] }
  | _ => none }
def StepSafeWrongFalsely : Prop := stepSafeRow.holds Tryz.pinned (OpenSpec.ofChange stepSafeWrong)

/-- 'hoarstonelaw16.StepWithin': WHATEVER THE INPUT: true; the input reads as it did. -/
def stepWithinSpec : ChangeSpec := { name := "stepWithin", fn := fun _ => fun
  | [d1, d2] => { results := [.lit (.bool true)], args := [d1, d2] }
  | _ => none }
def stepWithinRow : OpenClaim := { program := "ytkcgkignhpepkaagreatdoor", sum := "87edd15e24affefd7174afebee11fdbcaf3cfa6d1a3319e1b81667040e8a9b4c", func := "hoarstone/hoarstonelaw16.StepWithin", spec := "stepWithin", unfollowed := true, recurses := true, named := ["hoarstone/hoarstonekit.Bool", "hoarstone/hoarstonekit.List", "hoarstone/hoarstonekit.Pair", "hoarstone/hoarstonekit.Opt", "hoarstone/hoarstonekit.State", "hoarstone/hoarstonekit.Flip", "hoarstone/hoarstonekit.Abort", "hoarstone/hoarstonekit.Inc", "hoarstone/hoarstonekit.Add", "hoarstone/hoarstonekit.Total", "hoarstone/hoarstonekit.Down"], plainKeys := false, apart := false, laid := [("hoarstone/hoarstonekit.Bool", laid_hoarstone_hoarstonekit_Bool), ("hoarstone/hoarstonekit.List", laid_hoarstone_hoarstonekit_List), ("hoarstone/hoarstonekit.Pair", laid_hoarstone_hoarstonekit_Pair), ("hoarstone/hoarstonekit.Opt", laid_hoarstone_hoarstonekit_Opt), ("hoarstone/hoarstonekit.State", laid_hoarstone_hoarstonekit_State), ("hoarstone/hoarstonekit.Flip", laid_hoarstone_hoarstonekit_Flip), ("hoarstone/hoarstonekit.Abort", laid_hoarstone_hoarstonekit_Abort), ("hoarstone/hoarstonekit.Inc", laid_hoarstone_hoarstonekit_Inc), ("hoarstone/hoarstonekit.Add", laid_hoarstone_hoarstonekit_Add), ("hoarstone/hoarstonekit.Total", laid_hoarstone_hoarstonekit_Total), ("hoarstone/hoarstonekit.Down", laid_hoarstone_hoarstonekit_Down)] }
def StepWithinSaid : Prop := stepWithinRow.holds Tryz.pinned (OpenSpec.ofChange stepWithinSpec)

/-- ITS FALSE NEIGHBOUR: 'it returns false'. Refute it at one input. -/
def stepWithinWrong : ChangeSpec := { name := "stepWithin", fn := fun _ => fun
  | [d1, d2] => { results := [.lit (.bool false)], args := [d1, d2] }
  | _ => none }
def StepWithinWrongFalsely : Prop := stepWithinRow.holds Tryz.pinned (OpenSpec.ofChange stepWithinWrong)

/-- 'hoarstonelaw16.StepSteps': WHATEVER THE INPUT: true; the input reads as it did. -/
def stepStepsSpec : ChangeSpec := { name := "stepSteps", fn := fun _ => fun
  | [d1, d2, d3] => { results := [.lit (.bool true)], args := [d1, d2, d3] }
  | _ => none }
def stepStepsRow : OpenClaim := { program := "ytkcgkignhpepkaagreatdoor", sum := "87edd15e24affefd7174afebee11fdbcaf3cfa6d1a3319e1b81667040e8a9b4c", func := "hoarstone/hoarstonelaw16.StepSteps", spec := "stepSteps", unfollowed := true, recurses := true, named := ["hoarstone/hoarstonekit.Inc", "hoarstone/hoarstonekit.State"], loops := true, plainKeys := false, apart := false, laid := [("hoarstone/hoarstonekit.State", laid_hoarstone_hoarstonekit_State), ("hoarstone/hoarstonekit.Inc", laid_hoarstone_hoarstonekit_Inc)] }
def StepStepsSaid : Prop := stepStepsRow.holds Tryz.pinned (OpenSpec.ofChange stepStepsSpec)

/-- ITS FALSE NEIGHBOUR: 'it returns false'. Refute it at one input. -/
def stepStepsWrong : ChangeSpec := { name := "stepSteps", fn := fun _ => fun
  | [d1, d2, d3] => { results := [.lit (.bool false)], args := [d1, d2, d3] }
  | _ => none }
def StepStepsWrongFalsely : Prop := stepStepsRow.holds Tryz.pinned (OpenSpec.ofChange stepStepsWrong)

/-- 'hoarstonelaw16.StepRuns': WHATEVER THE INPUT: true; the input reads as it did. -/
def stepRunsSpec : ChangeSpec := { name := "stepRuns", fn := fun _ => fun
  | [d1, d2, d3, d4] => { results := [.lit (.bool true)], args := [d1, d2, d3, d4] }
  | _ => none }
def stepRunsRow : OpenClaim := { program := "ytkcgkignhpepkaagreatdoor", sum := "87edd15e24affefd7174afebee11fdbcaf3cfa6d1a3319e1b81667040e8a9b4c", func := "hoarstone/hoarstonelaw16.StepRuns", spec := "stepRuns", unfollowed := true, recurses := true, named := ["hoarstone/hoarstonekit.Inc", "hoarstone/hoarstonekit.State"], loops := true, plainKeys := false, apart := false, laid := [("hoarstone/hoarstonekit.State", laid_hoarstone_hoarstonekit_State), ("hoarstone/hoarstonekit.Inc", laid_hoarstone_hoarstonekit_Inc)] }
def StepRunsSaid : Prop := stepRunsRow.holds Tryz.pinned (OpenSpec.ofChange stepRunsSpec)

/-- ITS FALSE NEIGHBOUR: 'it returns false'. Refute it at one input. -/
def stepRunsWrong : ChangeSpec := { name := "stepRuns", fn := fun _ => fun
  | [d1, d2, d3, d4] => { results := [.lit (.bool false)], args := [d1, d2, d3, d4] }
  | _ => none }
def StepRunsWrongFalsely : Prop := stepRunsRow.holds Tryz.pinned (OpenSpec.ofChange stepRunsWrong)

/-- 'hoarstonelaw16.StepCut': WHATEVER THE INPUT: true; the input reads as it did. -/
def stepCutSpec : ChangeSpec := { name := "stepCut", fn := fun _ => fun
  | [d1, d2, d3] => { results := [.lit (.bool true)], args := [d1, d2, d3] }
  | _ => none }
def stepCutRow : OpenClaim := { program := "ytkcgkignhpepkaagreatdoor", sum := "87edd15e24affefd7174afebee11fdbcaf3cfa6d1a3319e1b81667040e8a9b4c", func := "hoarstone/hoarstonelaw16.StepCut", spec := "stepCut", unfollowed := true, recurses := true, named := ["hoarstone/hoarstonekit.Bool", "hoarstone/hoarstonekit.List", "hoarstone/hoarstonekit.Pair", "hoarstone/hoarstonekit.Opt", "hoarstone/hoarstonekit.State", "hoarstone/hoarstonekit.Flip", "hoarstone/hoarstonekit.Abort", "hoarstone/hoarstonekit.Inc", "hoarstone/hoarstonekit.Add", "hoarstone/hoarstonekit.Total", "hoarstone/hoarstonekit.Down"], plainKeys := false, apart := false, laid := [("hoarstone/hoarstonekit.Bool", laid_hoarstone_hoarstonekit_Bool), ("hoarstone/hoarstonekit.List", laid_hoarstone_hoarstonekit_List), ("hoarstone/hoarstonekit.Pair", laid_hoarstone_hoarstonekit_Pair), ("hoarstone/hoarstonekit.Opt", laid_hoarstone_hoarstonekit_Opt), ("hoarstone/hoarstonekit.State", laid_hoarstone_hoarstonekit_State), ("hoarstone/hoarstonekit.Flip", laid_hoarstone_hoarstonekit_Flip), ("hoarstone/hoarstonekit.Abort", laid_hoarstone_hoarstonekit_Abort), ("hoarstone/hoarstonekit.Inc", laid_hoarstone_hoarstonekit_Inc), ("hoarstone/hoarstonekit.Add", laid_hoarstone_hoarstonekit_Add), ("hoarstone/hoarstonekit.Total", laid_hoarstone_hoarstonekit_Total), ("hoarstone/hoarstonekit.Down", laid_hoarstone_hoarstonekit_Down)] }
def StepCutSaid : Prop := stepCutRow.holds Tryz.pinned (OpenSpec.ofChange stepCutSpec)

/-- ITS FALSE NEIGHBOUR: 'it returns false'. Refute it at one input. -/
def stepCutWrong : ChangeSpec := { name := "stepCut", fn := fun _ => fun
  | [d1, d2, d3] => { results := [.lit (.bool false)], args := [d1, d2, d3] }
  | _ => none }
def StepCutWrongFalsely : Prop := stepCutRow.holds Tryz.pinned (OpenSpec.ofChange stepCutWrong)

/-- 'hoarstonelaw16.StepSmall': WHATEVER THE INPUT: true; the input reads as it did. -/
def stepSmallSpec : ChangeSpec := { name := "stepSmall", fn := fun _ => fun
  | [] => { results := [.lit (.bool true)], args := [] }
  | _ => none }
def stepSmallRow : OpenClaim := { program := "ytkcgkignhpepkaagreatdoor", sum := "87edd15e24affefd7174afebee11fdbcaf3cfa6d1a3319e1b81667040e8a9b4c", func := "hoarstone/hoarstonelaw16.StepSmall", spec := "stepSmall", unfollowed := true, recurses := true, named := ["hoarstone/hoarstonekit.State", "hoarstone/hoarstonekit.Flip", "hoarstone/hoarstonekit.Inc", "hoarstone/hoarstonekit.List", "hoarstone/hoarstonekit.Opt", "hoarstone/hoarstonekit.Pair", "hoarstone/hoarstonekit.Down", "hoarstone/hoarstonekit.Bool", "hoarstone/hoarstonekit.Abort", "hoarstone/hoarstonekit.Add", "hoarstone/hoarstonekit.Total"], plainKeys := false, apart := false, laid := [("hoarstone/hoarstonekit.Bool", laid_hoarstone_hoarstonekit_Bool), ("hoarstone/hoarstonekit.List", laid_hoarstone_hoarstonekit_List), ("hoarstone/hoarstonekit.Pair", laid_hoarstone_hoarstonekit_Pair), ("hoarstone/hoarstonekit.Opt", laid_hoarstone_hoarstonekit_Opt), ("hoarstone/hoarstonekit.State", laid_hoarstone_hoarstonekit_State), ("hoarstone/hoarstonekit.Flip", laid_hoarstone_hoarstonekit_Flip), ("hoarstone/hoarstonekit.Abort", laid_hoarstone_hoarstonekit_Abort), ("hoarstone/hoarstonekit.Inc", laid_hoarstone_hoarstonekit_Inc), ("hoarstone/hoarstonekit.Add", laid_hoarstone_hoarstonekit_Add), ("hoarstone/hoarstonekit.Total", laid_hoarstone_hoarstonekit_Total), ("hoarstone/hoarstonekit.Down", laid_hoarstone_hoarstonekit_Down)] }
def StepSmallSaid : Prop := stepSmallRow.holds Tryz.pinned (OpenSpec.ofChange stepSmallSpec)

/-- ITS FALSE NEIGHBOUR: 'it returns false'. Refute it at one input. -/
def stepSmallWrong : ChangeSpec := { name := "stepSmall", fn := fun _ => fun
  | [] => { results := [.lit (.bool false)], args := [] }
  | _ => none }
def StepSmallWrongFalsely : Prop := stepSmallRow.holds Tryz.pinned (OpenSpec.ofChange stepSmallWrong)

/-- 'hoarstonelaw16.StepSteady': WHATEVER THE INPUT: true; the input reads as it did. -/
def stepSteadySpec : ChangeSpec := { name := "stepSteady", fn := fun _ => fun
  | [d1, d2, d3] => { results := [.lit (.bool true)], args := [d1, d2, d3] }
  | _ => none }
def stepSteadyRow : OpenClaim := { program := "ytkcgkignhpepkaagreatdoor", sum := "87edd15e24affefd7174afebee11fdbcaf3cfa6d1a3319e1b81667040e8a9b4c", func := "hoarstone/hoarstonelaw16.StepSteady", spec := "stepSteady", inPlace := ["slices.overlaps[hoarstone/api.KnownTerm]"], unfollowed := true, recurses := true, named := ["hoarstone/hoarstonekit.Bool", "hoarstone/hoarstonekit.List", "hoarstone/hoarstonekit.Pair", "hoarstone/hoarstonekit.Opt", "hoarstone/hoarstonekit.State", "hoarstone/hoarstonekit.Flip", "hoarstone/hoarstonekit.Abort", "hoarstone/hoarstonekit.Inc", "hoarstone/hoarstonekit.Add", "hoarstone/hoarstonekit.Total", "hoarstone/hoarstonekit.Down"], plainKeys := false, apart := false, laid := [("hoarstone/hoarstonekit.Bool", laid_hoarstone_hoarstonekit_Bool), ("hoarstone/hoarstonekit.List", laid_hoarstone_hoarstonekit_List), ("hoarstone/hoarstonekit.Pair", laid_hoarstone_hoarstonekit_Pair), ("hoarstone/hoarstonekit.Opt", laid_hoarstone_hoarstonekit_Opt), ("hoarstone/hoarstonekit.State", laid_hoarstone_hoarstonekit_State), ("hoarstone/hoarstonekit.Flip", laid_hoarstone_hoarstonekit_Flip), ("hoarstone/hoarstonekit.Abort", laid_hoarstone_hoarstonekit_Abort), ("hoarstone/hoarstonekit.Inc", laid_hoarstone_hoarstonekit_Inc), ("hoarstone/hoarstonekit.Add", laid_hoarstone_hoarstonekit_Add), ("hoarstone/hoarstonekit.Total", laid_hoarstone_hoarstonekit_Total), ("hoarstone/hoarstonekit.Down", laid_hoarstone_hoarstonekit_Down)] }
def StepSteadySaid : Prop := stepSteadyRow.holds Tryz.pinned (OpenSpec.ofChange stepSteadySpec)

/-- ITS FALSE NEIGHBOUR: 'it returns false'. Refute it at one input. -/
def stepSteadyWrong : ChangeSpec := { name := "stepSteady", fn := fun _ => fun
  | [d1, d2, d3] => { results := [.lit (.bool false)], args := [d1, d2, d3] }
  | _ => none }
def StepSteadyWrongFalsely : Prop := stepSteadyRow.holds Tryz.pinned (OpenSpec.ofChange stepSteadyWrong)

/- THE SECOND FORM. 'bulk': how many values and letters a reading holds, each counted each time it is reached (what is shared counts as often as it is met; a slice's spare places count too). A statement '..UptoSaid' is the law's where the arguments, and the package variables that the reading takes, are together of bulk at most 1048576: NARROWER than '..Said'. Prove '..Said' where nothing that the law and all that it calls make is longer than what came in: it says more and counts as full. Else prove '..UptoSaid'. A law counts once. -/
mutual
def uptoBulk {H : Type} : DataW H → Nat
  | .lit (.string bytes) => bytes.length + 1
  | .lit _ => 1
  | .nil => 1
  | .ptr d => uptoBulk d + 1
  | .slice elems spare => uptoBulkAll elems + uptoBulkAll spare + 1
  | .agg parts => uptoBulkAll parts + 1
  | .iface _ d => uptoBulk d + 1
  | .map entries => uptoBulkEntries entries + 1
  | .held _ => 1
def uptoBulkAll {H : Type} : List (DataW H) → Nat
  | [] => 0
  | d :: r => uptoBulk d + uptoBulkAll r
def uptoBulkEntries {H : Type} : List (Lit × DataW H) → Nat
  | [] => 0
  | x :: r => uptoBulkEntry x + uptoBulkEntries r
def uptoBulkEntry {H : Type} : Lit × DataW H → Nat
  | (.string bytes, d) => bytes.length + uptoBulk d + 1
  | (_, d) => uptoBulk d + 1
 end
def uptoSmall : (H : Type) → List (DataW H) → Bool := fun _ ds => decide (uptoBulkAll ds ≤ 1048576)
def OpenSpec.upto (s : _root_.Go.ChangeSpec) : _root_.Go.OpenSpec := { _root_.Go.OpenSpec.ofChange s with cond := some uptoSmall }

/-- 'hoarstonelaw16.StepChecks', WHERE WHAT IT READS IS OF BULK AT MOST 1048576: true; the input reads as it did. -/
def stepChecksUptoRow : OpenClaim := { program := "ytkcgkignhpepkaagreatdoor", sum := "87edd15e24affefd7174afebee11fdbcaf3cfa6d1a3319e1b81667040e8a9b4c", func := "hoarstone/hoarstonelaw16.StepChecks", spec := "stepChecks", unfollowed := true, recurses := true, named := ["hoarstone/hoarstonekit.Inc", "hoarstone/hoarstonekit.State"], loops := true, plainKeys := false, apart := false, laid := [("hoarstone/hoarstonekit.State", laid_hoarstone_hoarstonekit_State), ("hoarstone/hoarstonekit.Inc", laid_hoarstone_hoarstonekit_Inc)], narrowed := true }
def StepChecksUptoSaid : Prop := stepChecksUptoRow.holds Tryz.pinned (OpenSpec.upto stepChecksSpec)

/-- 'hoarstonelaw16.StepResumed', WHERE WHAT IT READS IS OF BULK AT MOST 1048576: true; the input reads as it did. -/
def stepResumedUptoRow : OpenClaim := { program := "ytkcgkignhpepkaagreatdoor", sum := "87edd15e24affefd7174afebee11fdbcaf3cfa6d1a3319e1b81667040e8a9b4c", func := "hoarstone/hoarstonelaw16.StepResumed", spec := "stepResumed", unfollowed := true, recurses := true, named := ["hoarstone/hoarstonekit.State", "hoarstone/hoarstonekit.Bool", "hoarstone/hoarstonekit.List", "hoarstone/hoarstonekit.Pair", "hoarstone/hoarstonekit.Opt", "hoarstone/hoarstonekit.Flip", "hoarstone/hoarstonekit.Abort", "hoarstone/hoarstonekit.Inc", "hoarstone/hoarstonekit.Add", "hoarstone/hoarstonekit.Total", "hoarstone/hoarstonekit.Down"], plainKeys := false, apart := false, laid := [("hoarstone/hoarstonekit.Bool", laid_hoarstone_hoarstonekit_Bool), ("hoarstone/hoarstonekit.List", laid_hoarstone_hoarstonekit_List), ("hoarstone/hoarstonekit.Pair", laid_hoarstone_hoarstonekit_Pair), ("hoarstone/hoarstonekit.Opt", laid_hoarstone_hoarstonekit_Opt), ("hoarstone/hoarstonekit.State", laid_hoarstone_hoarstonekit_State), ("hoarstone/hoarstonekit.Flip", laid_hoarstone_hoarstonekit_Flip), ("hoarstone/hoarstonekit.Abort", laid_hoarstone_hoarstonekit_Abort), ("hoarstone/hoarstonekit.Inc", laid_hoarstone_hoarstonekit_Inc), ("hoarstone/hoarstonekit.Add", laid_hoarstone_hoarstonekit_Add), ("hoarstone/hoarstonekit.Total", laid_hoarstone_hoarstonekit_Total), ("hoarstone/hoarstonekit.Down", laid_hoarstone_hoarstonekit_Down)], narrowed := true }
def StepResumedUptoSaid : Prop := stepResumedUptoRow.holds Tryz.pinned (OpenSpec.upto stepResumedSpec)

/-- 'hoarstonelaw16.StepSafe', WHERE WHAT IT READS IS OF BULK AT MOST 1048576: true; the input reads as it did. -/
def stepSafeUptoRow : OpenClaim := { program := "ytkcgkignhpepkaagreatdoor", sum := "87edd15e24affefd7174afebee11fdbcaf3cfa6d1a3319e1b81667040e8a9b4c", func := "hoarstone/hoarstonelaw16.StepSafe", spec := "stepSafe", unfollowed := true, recurses := true, named := ["hoarstone/hoarstonekit.List", "hoarstone/hoarstonekit.Opt", "hoarstone/hoarstonekit.Pair", "hoarstone/hoarstonekit.Bool", "hoarstone/hoarstonekit.Flip", "hoarstone/hoarstonekit.State", "hoarstone/hoarstonekit.Abort", "hoarstone/hoarstonekit.Inc", "hoarstone/hoarstonekit.Add", "hoarstone/hoarstonekit.Total", "hoarstone/hoarstonekit.Down"], plainKeys := false, apart := false, laid := [("hoarstone/hoarstonekit.Bool", laid_hoarstone_hoarstonekit_Bool), ("hoarstone/hoarstonekit.List", laid_hoarstone_hoarstonekit_List), ("hoarstone/hoarstonekit.Pair", laid_hoarstone_hoarstonekit_Pair), ("hoarstone/hoarstonekit.Opt", laid_hoarstone_hoarstonekit_Opt), ("hoarstone/hoarstonekit.State", laid_hoarstone_hoarstonekit_State), ("hoarstone/hoarstonekit.Flip", laid_hoarstone_hoarstonekit_Flip), ("hoarstone/hoarstonekit.Abort", laid_hoarstone_hoarstonekit_Abort), ("hoarstone/hoarstonekit.Inc", laid_hoarstone_hoarstonekit_Inc), ("hoarstone/hoarstonekit.Add", laid_hoarstone_hoarstonekit_Add), ("hoarstone/hoarstonekit.Total", laid_hoarstone_hoarstonekit_Total), ("hoarstone/hoarstonekit.Down", laid_hoarstone_hoarstonekit_Down)], narrowed := true }
def StepSafeUptoSaid : Prop := stepSafeUptoRow.holds Tryz.pinned (OpenSpec.upto stepSafeSpec)

/-- 'hoarstonelaw16.StepWithin', WHERE WHAT IT READS IS OF BULK AT MOST 1048576: true; the input reads as it did. -/
def stepWithinUptoRow : OpenClaim := { program := "ytkcgkignhpepkaagreatdoor", sum := "87edd15e24affefd7174afebee11fdbcaf3cfa6d1a3319e1b81667040e8a9b4c", func := "hoarstone/hoarstonelaw16.StepWithin", spec := "stepWithin", unfollowed := true, recurses := true, named := ["hoarstone/hoarstonekit.Bool", "hoarstone/hoarstonekit.List", "hoarstone/hoarstonekit.Pair", "hoarstone/hoarstonekit.Opt", "hoarstone/hoarstonekit.State", "hoarstone/hoarstonekit.Flip", "hoarstone/hoarstonekit.Abort", "hoarstone/hoarstonekit.Inc", "hoarstone/hoarstonekit.Add", "hoarstone/hoarstonekit.Total", "hoarstone/hoarstonekit.Down"], plainKeys := false, apart := false, laid := [("hoarstone/hoarstonekit.Bool", laid_hoarstone_hoarstonekit_Bool), ("hoarstone/hoarstonekit.List", laid_hoarstone_hoarstonekit_List), ("hoarstone/hoarstonekit.Pair", laid_hoarstone_hoarstonekit_Pair), ("hoarstone/hoarstonekit.Opt", laid_hoarstone_hoarstonekit_Opt), ("hoarstone/hoarstonekit.State", laid_hoarstone_hoarstonekit_State), ("hoarstone/hoarstonekit.Flip", laid_hoarstone_hoarstonekit_Flip), ("hoarstone/hoarstonekit.Abort", laid_hoarstone_hoarstonekit_Abort), ("hoarstone/hoarstonekit.Inc", laid_hoarstone_hoarstonekit_Inc), ("hoarstone/hoarstonekit.Add", laid_hoarstone_hoarstonekit_Add), ("hoarstone/hoarstonekit.Total", laid_hoarstone_hoarstonekit_Total), ("hoarstone/hoarstonekit.Down", laid_hoarstone_hoarstonekit_Down)], narrowed := true }
def StepWithinUptoSaid : Prop := stepWithinUptoRow.holds Tryz.pinned (OpenSpec.upto stepWithinSpec)

/-- 'hoarstonelaw16.StepSteps', WHERE WHAT IT READS IS OF BULK AT MOST 1048576: true; the input reads as it did. -/
def stepStepsUptoRow : OpenClaim := { program := "ytkcgkignhpepkaagreatdoor", sum := "87edd15e24affefd7174afebee11fdbcaf3cfa6d1a3319e1b81667040e8a9b4c", func := "hoarstone/hoarstonelaw16.StepSteps", spec := "stepSteps", unfollowed := true, recurses := true, named := ["hoarstone/hoarstonekit.Inc", "hoarstone/hoarstonekit.State"], loops := true, plainKeys := false, apart := false, laid := [("hoarstone/hoarstonekit.State", laid_hoarstone_hoarstonekit_State), ("hoarstone/hoarstonekit.Inc", laid_hoarstone_hoarstonekit_Inc)], narrowed := true }
def StepStepsUptoSaid : Prop := stepStepsUptoRow.holds Tryz.pinned (OpenSpec.upto stepStepsSpec)

/-- 'hoarstonelaw16.StepRuns', WHERE WHAT IT READS IS OF BULK AT MOST 1048576: true; the input reads as it did. -/
def stepRunsUptoRow : OpenClaim := { program := "ytkcgkignhpepkaagreatdoor", sum := "87edd15e24affefd7174afebee11fdbcaf3cfa6d1a3319e1b81667040e8a9b4c", func := "hoarstone/hoarstonelaw16.StepRuns", spec := "stepRuns", unfollowed := true, recurses := true, named := ["hoarstone/hoarstonekit.Inc", "hoarstone/hoarstonekit.State"], loops := true, plainKeys := false, apart := false, laid := [("hoarstone/hoarstonekit.State", laid_hoarstone_hoarstonekit_State), ("hoarstone/hoarstonekit.Inc", laid_hoarstone_hoarstonekit_Inc)], narrowed := true }
def StepRunsUptoSaid : Prop := stepRunsUptoRow.holds Tryz.pinned (OpenSpec.upto stepRunsSpec)

/-- 'hoarstonelaw16.StepCut', WHERE WHAT IT READS IS OF BULK AT MOST 1048576: true; the input reads as it did. -/
def stepCutUptoRow : OpenClaim := { program := "ytkcgkignhpepkaagreatdoor", sum := "87edd15e24affefd7174afebee11fdbcaf3cfa6d1a3319e1b81667040e8a9b4c", func := "hoarstone/hoarstonelaw16.StepCut", spec := "stepCut", unfollowed := true, recurses := true, named := ["hoarstone/hoarstonekit.Bool", "hoarstone/hoarstonekit.List", "hoarstone/hoarstonekit.Pair", "hoarstone/hoarstonekit.Opt", "hoarstone/hoarstonekit.State", "hoarstone/hoarstonekit.Flip", "hoarstone/hoarstonekit.Abort", "hoarstone/hoarstonekit.Inc", "hoarstone/hoarstonekit.Add", "hoarstone/hoarstonekit.Total", "hoarstone/hoarstonekit.Down"], plainKeys := false, apart := false, laid := [("hoarstone/hoarstonekit.Bool", laid_hoarstone_hoarstonekit_Bool), ("hoarstone/hoarstonekit.List", laid_hoarstone_hoarstonekit_List), ("hoarstone/hoarstonekit.Pair", laid_hoarstone_hoarstonekit_Pair), ("hoarstone/hoarstonekit.Opt", laid_hoarstone_hoarstonekit_Opt), ("hoarstone/hoarstonekit.State", laid_hoarstone_hoarstonekit_State), ("hoarstone/hoarstonekit.Flip", laid_hoarstone_hoarstonekit_Flip), ("hoarstone/hoarstonekit.Abort", laid_hoarstone_hoarstonekit_Abort), ("hoarstone/hoarstonekit.Inc", laid_hoarstone_hoarstonekit_Inc), ("hoarstone/hoarstonekit.Add", laid_hoarstone_hoarstonekit_Add), ("hoarstone/hoarstonekit.Total", laid_hoarstone_hoarstonekit_Total), ("hoarstone/hoarstonekit.Down", laid_hoarstone_hoarstonekit_Down)], narrowed := true }
def StepCutUptoSaid : Prop := stepCutUptoRow.holds Tryz.pinned (OpenSpec.upto stepCutSpec)

/-- 'hoarstonelaw16.StepSmall', WHERE WHAT IT READS IS OF BULK AT MOST 1048576: true; the input reads as it did. -/
def stepSmallUptoRow : OpenClaim := { program := "ytkcgkignhpepkaagreatdoor", sum := "87edd15e24affefd7174afebee11fdbcaf3cfa6d1a3319e1b81667040e8a9b4c", func := "hoarstone/hoarstonelaw16.StepSmall", spec := "stepSmall", unfollowed := true, recurses := true, named := ["hoarstone/hoarstonekit.State", "hoarstone/hoarstonekit.Flip", "hoarstone/hoarstonekit.Inc", "hoarstone/hoarstonekit.List", "hoarstone/hoarstonekit.Opt", "hoarstone/hoarstonekit.Pair", "hoarstone/hoarstonekit.Down", "hoarstone/hoarstonekit.Bool", "hoarstone/hoarstonekit.Abort", "hoarstone/hoarstonekit.Add", "hoarstone/hoarstonekit.Total"], plainKeys := false, apart := false, laid := [("hoarstone/hoarstonekit.Bool", laid_hoarstone_hoarstonekit_Bool), ("hoarstone/hoarstonekit.List", laid_hoarstone_hoarstonekit_List), ("hoarstone/hoarstonekit.Pair", laid_hoarstone_hoarstonekit_Pair), ("hoarstone/hoarstonekit.Opt", laid_hoarstone_hoarstonekit_Opt), ("hoarstone/hoarstonekit.State", laid_hoarstone_hoarstonekit_State), ("hoarstone/hoarstonekit.Flip", laid_hoarstone_hoarstonekit_Flip), ("hoarstone/hoarstonekit.Abort", laid_hoarstone_hoarstonekit_Abort), ("hoarstone/hoarstonekit.Inc", laid_hoarstone_hoarstonekit_Inc), ("hoarstone/hoarstonekit.Add", laid_hoarstone_hoarstonekit_Add), ("hoarstone/hoarstonekit.Total", laid_hoarstone_hoarstonekit_Total), ("hoarstone/hoarstonekit.Down", laid_hoarstone_hoarstonekit_Down)], narrowed := true }
def StepSmallUptoSaid : Prop := stepSmallUptoRow.holds Tryz.pinned (OpenSpec.upto stepSmallSpec)

/-- 'hoarstonelaw16.StepSteady', WHERE WHAT IT READS IS OF BULK AT MOST 1048576: true; the input reads as it did. -/
def stepSteadyUptoRow : OpenClaim := { program := "ytkcgkignhpepkaagreatdoor", sum := "87edd15e24affefd7174afebee11fdbcaf3cfa6d1a3319e1b81667040e8a9b4c", func := "hoarstone/hoarstonelaw16.StepSteady", spec := "stepSteady", inPlace := ["slices.overlaps[hoarstone/api.KnownTerm]"], unfollowed := true, recurses := true, named := ["hoarstone/hoarstonekit.Bool", "hoarstone/hoarstonekit.List", "hoarstone/hoarstonekit.Pair", "hoarstone/hoarstonekit.Opt", "hoarstone/hoarstonekit.State", "hoarstone/hoarstonekit.Flip", "hoarstone/hoarstonekit.Abort", "hoarstone/hoarstonekit.Inc", "hoarstone/hoarstonekit.Add", "hoarstone/hoarstonekit.Total", "hoarstone/hoarstonekit.Down"], plainKeys := false, apart := false, laid := [("hoarstone/hoarstonekit.Bool", laid_hoarstone_hoarstonekit_Bool), ("hoarstone/hoarstonekit.List", laid_hoarstone_hoarstonekit_List), ("hoarstone/hoarstonekit.Pair", laid_hoarstone_hoarstonekit_Pair), ("hoarstone/hoarstonekit.Opt", laid_hoarstone_hoarstonekit_Opt), ("hoarstone/hoarstonekit.State", laid_hoarstone_hoarstonekit_State), ("hoarstone/hoarstonekit.Flip", laid_hoarstone_hoarstonekit_Flip), ("hoarstone/hoarstonekit.Abort", laid_hoarstone_hoarstonekit_Abort), ("hoarstone/hoarstonekit.Inc", laid_hoarstone_hoarstonekit_Inc), ("hoarstone/hoarstonekit.Add", laid_hoarstone_hoarstonekit_Add), ("hoarstone/hoarstonekit.Total", laid_hoarstone_hoarstonekit_Total), ("hoarstone/hoarstonekit.Down", laid_hoarstone_hoarstonekit_Down)], narrowed := true }
def StepSteadyUptoSaid : Prop := stepSteadyUptoRow.holds Tryz.pinned (OpenSpec.upto stepSteadySpec)

end Rows
end Go.Proofs.YtkcgkignhpepkaaGreatDoor
