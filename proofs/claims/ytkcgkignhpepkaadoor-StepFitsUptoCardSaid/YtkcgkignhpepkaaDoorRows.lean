/-
  NARROWER THAN 'FOR EVERY INPUT', by the rows' own cells (each row's printed sentence says how): StepFits: loops, laid · StepUsual: laid.
  DERIVED. THE GIVEN ROWS OF THIS SEAT. 2 by the template 'for every input the law returns true; each argument reads behind the call as it read before'; 0 by the template 'total and deterministic' (their statements: YtkcgkignhpepkaaDoorTotals.lean).
  GIVEN WITH THE SEED: the statements are not yours to turn. If you find one false, say at which input.
  Laid BY PROGRAM, IN A SANDBOX (cutbox-rows.mjs): the forced cells as the released guide's own fill.sh prints them over the translation 8ca0cb03bb430582… (all of the seat's roots in one cut). By AI agents, Wed Nov 11 2026. No macro, syntax, notation, axiom, sorry.
-/
import Derived.Test.YtkcgkignhpepkaaDoorChecked
import GoSem.Claim
import GoSem.ClaimJoined
import GoSem.ClaimMapViews
import Derived.JoinedTies
import Derived.KernelRfl
namespace Go.Proofs.YtkcgkignhpepkaaDoor
/- THE CELL 'sum', in the pinned program and in every row, IS THE sha256 OF THE DUMP (.gsa) THAT YtkcgkignhpepkaaDoorProg.lean LOADS. Nothing in Lean hashes anything: it is a label: what it is worth is what the hold of that sum in a sandbox is worth. -/
noncomputable def Tryd.pinned : Pinned := { name := "ytkcgkignhpepkaadoor", sum := "8ca0cb03bb4305828597038f2cf7929c55d6dbbdfffcba1372da3bcac05e18c7", checked := Tryd.checked }
namespace Rows
def none {H : Type} : Left H := { results := [], args := [] }

/- WHAT THE LISTED PACKAGE-LEVEL VARIABLES READ AS WHEN THE CALL BEGINS. Each datum BY PROGRAM (the guide's laid-datum.mjs) off the statement by which the dump's own 'gosem.cut.vars' lays the variable. In a bare row this is a premise. The card (YtkcgkignhpepkaaDoorCards.lean) ties it to the program's text. -/
def laid_hoarstone_hoarstonekit_State {H : Type} : DataW H := .agg [.lit (.int .u8 11), .lit (.int .u8 0), .lit (.int .u8 0), .lit (.int .u8 0), .lit (.int .u8 0), .lit (.int .u8 0), .lit (.int .u8 0), .lit (.int .u8 0), .lit (.int .u8 0), .lit (.int .u8 0), .lit (.int .u8 0), .lit (.int .u8 0), .lit (.int .u8 0), .lit (.int .u8 0), .lit (.int .u8 0), .lit (.int .u8 0), .lit (.int .u8 0), .lit (.int .u8 0), .lit (.int .u8 0), .lit (.int .u8 0), .lit (.int .u8 0), .lit (.int .u8 0), .lit (.int .u8 0), .lit (.int .u8 0), .lit (.int .u8 0), .lit (.int .u8 0), .lit (.int .u8 0), .lit (.int .u8 0), .lit (.int .u8 0), .lit (.int .u8 0), .lit (.int .u8 0), .lit (.int .u8 0)]
def laid_hoarstone_hoarstonekit_Inc {H : Type} : DataW H := .agg [.lit (.int .u8 21), .lit (.int .u8 0), .lit (.int .u8 0), .lit (.int .u8 0), .lit (.int .u8 0), .lit (.int .u8 0), .lit (.int .u8 0), .lit (.int .u8 0), .lit (.int .u8 0), .lit (.int .u8 0), .lit (.int .u8 0), .lit (.int .u8 0), .lit (.int .u8 0), .lit (.int .u8 0), .lit (.int .u8 0), .lit (.int .u8 0), .lit (.int .u8 0), .lit (.int .u8 0), .lit (.int .u8 0), .lit (.int .u8 0), .lit (.int .u8 0), .lit (.int .u8 0), .lit (.int .u8 0), .lit (.int .u8 0), .lit (.int .u8 0), .lit (.int .u8 0), .lit (.int .u8 0), .lit (.int .u8 0), .lit (.int .u8 0), .lit (.int .u8 0), .lit (.int .u8 0), .lit (.int .u8 0)]
def laid_hoarstone_hoarstonekit_Bool {H : Type} : DataW H := .agg [.lit (.int .u8 1), .lit (.int .u8 0), .lit (.int .u8 0), .lit (.int .u8 0), .lit (.int .u8 0), .lit (.int .u8 0), .lit (.int .u8 0), .lit (.int .u8 0), .lit (.int .u8 0), .lit (.int .u8 0), .lit (.int .u8 0), .lit (.int .u8 0), .lit (.int .u8 0), .lit (.int .u8 0), .lit (.int .u8 0), .lit (.int .u8 0), .lit (.int .u8 0), .lit (.int .u8 0), .lit (.int .u8 0), .lit (.int .u8 0), .lit (.int .u8 0), .lit (.int .u8 0), .lit (.int .u8 0), .lit (.int .u8 0), .lit (.int .u8 0), .lit (.int .u8 0), .lit (.int .u8 0), .lit (.int .u8 0), .lit (.int .u8 0), .lit (.int .u8 0), .lit (.int .u8 0), .lit (.int .u8 0)]
def laid_hoarstone_hoarstonekit_List {H : Type} : DataW H := .agg [.lit (.int .u8 2), .lit (.int .u8 0), .lit (.int .u8 0), .lit (.int .u8 0), .lit (.int .u8 0), .lit (.int .u8 0), .lit (.int .u8 0), .lit (.int .u8 0), .lit (.int .u8 0), .lit (.int .u8 0), .lit (.int .u8 0), .lit (.int .u8 0), .lit (.int .u8 0), .lit (.int .u8 0), .lit (.int .u8 0), .lit (.int .u8 0), .lit (.int .u8 0), .lit (.int .u8 0), .lit (.int .u8 0), .lit (.int .u8 0), .lit (.int .u8 0), .lit (.int .u8 0), .lit (.int .u8 0), .lit (.int .u8 0), .lit (.int .u8 0), .lit (.int .u8 0), .lit (.int .u8 0), .lit (.int .u8 0), .lit (.int .u8 0), .lit (.int .u8 0), .lit (.int .u8 0), .lit (.int .u8 0)]
def laid_hoarstone_hoarstonekit_Pair {H : Type} : DataW H := .agg [.lit (.int .u8 3), .lit (.int .u8 0), .lit (.int .u8 0), .lit (.int .u8 0), .lit (.int .u8 0), .lit (.int .u8 0), .lit (.int .u8 0), .lit (.int .u8 0), .lit (.int .u8 0), .lit (.int .u8 0), .lit (.int .u8 0), .lit (.int .u8 0), .lit (.int .u8 0), .lit (.int .u8 0), .lit (.int .u8 0), .lit (.int .u8 0), .lit (.int .u8 0), .lit (.int .u8 0), .lit (.int .u8 0), .lit (.int .u8 0), .lit (.int .u8 0), .lit (.int .u8 0), .lit (.int .u8 0), .lit (.int .u8 0), .lit (.int .u8 0), .lit (.int .u8 0), .lit (.int .u8 0), .lit (.int .u8 0), .lit (.int .u8 0), .lit (.int .u8 0), .lit (.int .u8 0), .lit (.int .u8 0)]
def laid_hoarstone_hoarstonekit_Opt {H : Type} : DataW H := .agg [.lit (.int .u8 4), .lit (.int .u8 0), .lit (.int .u8 0), .lit (.int .u8 0), .lit (.int .u8 0), .lit (.int .u8 0), .lit (.int .u8 0), .lit (.int .u8 0), .lit (.int .u8 0), .lit (.int .u8 0), .lit (.int .u8 0), .lit (.int .u8 0), .lit (.int .u8 0), .lit (.int .u8 0), .lit (.int .u8 0), .lit (.int .u8 0), .lit (.int .u8 0), .lit (.int .u8 0), .lit (.int .u8 0), .lit (.int .u8 0), .lit (.int .u8 0), .lit (.int .u8 0), .lit (.int .u8 0), .lit (.int .u8 0), .lit (.int .u8 0), .lit (.int .u8 0), .lit (.int .u8 0), .lit (.int .u8 0), .lit (.int .u8 0), .lit (.int .u8 0), .lit (.int .u8 0), .lit (.int .u8 0)]
def laid_hoarstone_hoarstonekit_Flip {H : Type} : DataW H := .agg [.lit (.int .u8 12), .lit (.int .u8 0), .lit (.int .u8 0), .lit (.int .u8 0), .lit (.int .u8 0), .lit (.int .u8 0), .lit (.int .u8 0), .lit (.int .u8 0), .lit (.int .u8 0), .lit (.int .u8 0), .lit (.int .u8 0), .lit (.int .u8 0), .lit (.int .u8 0), .lit (.int .u8 0), .lit (.int .u8 0), .lit (.int .u8 0), .lit (.int .u8 0), .lit (.int .u8 0), .lit (.int .u8 0), .lit (.int .u8 0), .lit (.int .u8 0), .lit (.int .u8 0), .lit (.int .u8 0), .lit (.int .u8 0), .lit (.int .u8 0), .lit (.int .u8 0), .lit (.int .u8 0), .lit (.int .u8 0), .lit (.int .u8 0), .lit (.int .u8 0), .lit (.int .u8 0), .lit (.int .u8 0)]
def laid_hoarstone_hoarstonekit_Abort {H : Type} : DataW H := .agg [.lit (.int .u8 13), .lit (.int .u8 0), .lit (.int .u8 0), .lit (.int .u8 0), .lit (.int .u8 0), .lit (.int .u8 0), .lit (.int .u8 0), .lit (.int .u8 0), .lit (.int .u8 0), .lit (.int .u8 0), .lit (.int .u8 0), .lit (.int .u8 0), .lit (.int .u8 0), .lit (.int .u8 0), .lit (.int .u8 0), .lit (.int .u8 0), .lit (.int .u8 0), .lit (.int .u8 0), .lit (.int .u8 0), .lit (.int .u8 0), .lit (.int .u8 0), .lit (.int .u8 0), .lit (.int .u8 0), .lit (.int .u8 0), .lit (.int .u8 0), .lit (.int .u8 0), .lit (.int .u8 0), .lit (.int .u8 0), .lit (.int .u8 0), .lit (.int .u8 0), .lit (.int .u8 0), .lit (.int .u8 0)]
def laid_hoarstone_hoarstonekit_Add {H : Type} : DataW H := .agg [.lit (.int .u8 22), .lit (.int .u8 0), .lit (.int .u8 0), .lit (.int .u8 0), .lit (.int .u8 0), .lit (.int .u8 0), .lit (.int .u8 0), .lit (.int .u8 0), .lit (.int .u8 0), .lit (.int .u8 0), .lit (.int .u8 0), .lit (.int .u8 0), .lit (.int .u8 0), .lit (.int .u8 0), .lit (.int .u8 0), .lit (.int .u8 0), .lit (.int .u8 0), .lit (.int .u8 0), .lit (.int .u8 0), .lit (.int .u8 0), .lit (.int .u8 0), .lit (.int .u8 0), .lit (.int .u8 0), .lit (.int .u8 0), .lit (.int .u8 0), .lit (.int .u8 0), .lit (.int .u8 0), .lit (.int .u8 0), .lit (.int .u8 0), .lit (.int .u8 0), .lit (.int .u8 0), .lit (.int .u8 0)]
def laid_hoarstone_hoarstonekit_Total {H : Type} : DataW H := .agg [.lit (.int .u8 23), .lit (.int .u8 0), .lit (.int .u8 0), .lit (.int .u8 0), .lit (.int .u8 0), .lit (.int .u8 0), .lit (.int .u8 0), .lit (.int .u8 0), .lit (.int .u8 0), .lit (.int .u8 0), .lit (.int .u8 0), .lit (.int .u8 0), .lit (.int .u8 0), .lit (.int .u8 0), .lit (.int .u8 0), .lit (.int .u8 0), .lit (.int .u8 0), .lit (.int .u8 0), .lit (.int .u8 0), .lit (.int .u8 0), .lit (.int .u8 0), .lit (.int .u8 0), .lit (.int .u8 0), .lit (.int .u8 0), .lit (.int .u8 0), .lit (.int .u8 0), .lit (.int .u8 0), .lit (.int .u8 0), .lit (.int .u8 0), .lit (.int .u8 0), .lit (.int .u8 0), .lit (.int .u8 0)]
def laid_hoarstone_hoarstonekit_Down {H : Type} : DataW H := .agg [.lit (.int .u8 24), .lit (.int .u8 0), .lit (.int .u8 0), .lit (.int .u8 0), .lit (.int .u8 0), .lit (.int .u8 0), .lit (.int .u8 0), .lit (.int .u8 0), .lit (.int .u8 0), .lit (.int .u8 0), .lit (.int .u8 0), .lit (.int .u8 0), .lit (.int .u8 0), .lit (.int .u8 0), .lit (.int .u8 0), .lit (.int .u8 0), .lit (.int .u8 0), .lit (.int .u8 0), .lit (.int .u8 0), .lit (.int .u8 0), .lit (.int .u8 0), .lit (.int .u8 0), .lit (.int .u8 0), .lit (.int .u8 0), .lit (.int .u8 0), .lit (.int .u8 0), .lit (.int .u8 0), .lit (.int .u8 0), .lit (.int .u8 0), .lit (.int .u8 0), .lit (.int .u8 0), .lit (.int .u8 0)]

/-- 'hoarstonelaw16.StepFits': WHATEVER THE INPUT: true; the input reads as it did. -/
def stepFitsSpec : ChangeSpec := { name := "stepFits", fn := fun _ => fun
  | [d1, d2] => { results := [.lit (.bool true)], args := [d1, d2] }
  | _ => none }
def stepFitsRow : OpenClaim := { program := "ytkcgkignhpepkaadoor", sum := "8ca0cb03bb4305828597038f2cf7929c55d6dbbdfffcba1372da3bcac05e18c7", func := "hoarstone/hoarstonelaw16.StepFits", spec := "stepFits", unfollowed := true, recurses := true, named := ["hoarstone/hoarstonekit.Inc", "hoarstone/hoarstonekit.State"], loops := true, plainKeys := false, apart := false, laid := [("hoarstone/hoarstonekit.State", laid_hoarstone_hoarstonekit_State), ("hoarstone/hoarstonekit.Inc", laid_hoarstone_hoarstonekit_Inc)] }
def StepFitsSaid : Prop := stepFitsRow.holds Tryd.pinned (OpenSpec.ofChange stepFitsSpec)

/-- ITS FALSE NEIGHBOUR: 'it returns false'. Refute it at one input. -/
def stepFitsWrong : ChangeSpec := { name := "stepFits", fn := fun _ => fun
  | [d1, d2] => { results := [.lit (.bool false)], args := [d1, d2] }
  | _ => none }
def StepFitsWrongFalsely : Prop := stepFitsRow.holds Tryd.pinned (OpenSpec.ofChange stepFitsWrong)

/-- 'hoarstonelaw16.StepUsual': WHATEVER THE INPUT: true; the input reads as it did. -/
def stepUsualSpec : ChangeSpec := { name := "stepUsual", fn := fun _ => fun
  | [d1, d2, d3] => { results := [.lit (.bool true)], args := [d1, d2, d3] }
  | _ => none }
def stepUsualRow : OpenClaim := { program := "ytkcgkignhpepkaadoor", sum := "8ca0cb03bb4305828597038f2cf7929c55d6dbbdfffcba1372da3bcac05e18c7", func := "hoarstone/hoarstonelaw16.StepUsual", spec := "stepUsual", unfollowed := true, recurses := true, named := ["hoarstone/hoarstonekit.List", "hoarstone/hoarstonekit.Inc", "hoarstone/hoarstonekit.Add", "hoarstone/hoarstonekit.Total", "hoarstone/hoarstonekit.Down", "hoarstone/hoarstonekit.Bool", "hoarstone/hoarstonekit.Pair", "hoarstone/hoarstonekit.Opt", "hoarstone/hoarstonekit.State", "hoarstone/hoarstonekit.Flip", "hoarstone/hoarstonekit.Abort"], plainKeys := false, apart := false, laid := [("hoarstone/hoarstonekit.Bool", laid_hoarstone_hoarstonekit_Bool), ("hoarstone/hoarstonekit.List", laid_hoarstone_hoarstonekit_List), ("hoarstone/hoarstonekit.Pair", laid_hoarstone_hoarstonekit_Pair), ("hoarstone/hoarstonekit.Opt", laid_hoarstone_hoarstonekit_Opt), ("hoarstone/hoarstonekit.State", laid_hoarstone_hoarstonekit_State), ("hoarstone/hoarstonekit.Flip", laid_hoarstone_hoarstonekit_Flip), ("hoarstone/hoarstonekit.Abort", laid_hoarstone_hoarstonekit_Abort), ("hoarstone/hoarstonekit.Inc", laid_hoarstone_hoarstonekit_Inc), ("hoarstone/hoarstonekit.Add", laid_hoarstone_hoarstonekit_Add), ("hoarstone/hoarstonekit.Total", laid_hoarstone_hoarstonekit_Total), ("hoarstone/hoarstonekit.Down", laid_hoarstone_hoarstonekit_Down)] }
def StepUsualSaid : Prop := stepUsualRow.holds Tryd.pinned (OpenSpec.ofChange stepUsualSpec)

/-- ITS FALSE NEIGHBOUR: 'it returns false'. Refute it at one input. -/
def stepUsualWrong : ChangeSpec := { name := "stepUsual", fn := fun _ => fun
  | [d1, d2, d3] => { results := [.lit (.bool false)], args := [d1, d2, d3] }
  | _ => none }
def StepUsualWrongFalsely : Prop := stepUsualRow.holds Tryd.pinned (OpenSpec.ofChange stepUsualWrong)

/- THE SECOND FORM. 'bulk': how many values and letters a reading holds, each counted each time it is reached (what is shared counts as often as it is met; a slice's spare places count too). A statement '..UptoSaid' is the law's where the arguments, and the package variables that the reading takes, are together of bulk at most 1048576: NARROWER than '..Said'. Prove '..Said' where nothing that the law and all that it calls make is longer than what came in: it says more and counts as full. Else prove '..UptoSaid'. A law counts once. -/
mutual
def uptoBulk {H : Type} : DataW H → Nat
  | .lit (.string bytes) => bytes.length + 1
  | .lit _ => 1
  | .nil => 1
  | .ptr d => uptoBulk d + 1
  | .slice elems spare => uptoBulkAll elems + uptoBulkAll spare + 1
  | .agg parts => uptoBulkAll parts + 1
  | .iface _ d => uptoBulk d + 1
  | .map entries => uptoBulkEntries entries + 1
  | .held _ => 1
def uptoBulkAll {H : Type} : List (DataW H) → Nat
  | [] => 0
  | d :: r => uptoBulk d + uptoBulkAll r
def uptoBulkEntries {H : Type} : List (Lit × DataW H) → Nat
  | [] => 0
  | x :: r => uptoBulkEntry x + uptoBulkEntries r
def uptoBulkEntry {H : Type} : Lit × DataW H → Nat
  | (.string bytes, d) => bytes.length + uptoBulk d + 1
  | (_, d) => uptoBulk d + 1
 end
def uptoSmall : (H : Type) → List (DataW H) → Bool := fun _ ds => decide (uptoBulkAll ds ≤ 1048576)
def OpenSpec.upto (s : _root_.Go.ChangeSpec) : _root_.Go.OpenSpec := { _root_.Go.OpenSpec.ofChange s with cond := some uptoSmall }

/-- 'hoarstonelaw16.StepFits', WHERE WHAT IT READS IS OF BULK AT MOST 1048576: true; the input reads as it did. -/
def stepFitsUptoRow : OpenClaim := { program := "ytkcgkignhpepkaadoor", sum := "8ca0cb03bb4305828597038f2cf7929c55d6dbbdfffcba1372da3bcac05e18c7", func := "hoarstone/hoarstonelaw16.StepFits", spec := "stepFits", unfollowed := true, recurses := true, named := ["hoarstone/hoarstonekit.Inc", "hoarstone/hoarstonekit.State"], loops := true, plainKeys := false, apart := false, laid := [("hoarstone/hoarstonekit.State", laid_hoarstone_hoarstonekit_State), ("hoarstone/hoarstonekit.Inc", laid_hoarstone_hoarstonekit_Inc)], narrowed := true }
def StepFitsUptoSaid : Prop := stepFitsUptoRow.holds Tryd.pinned (OpenSpec.upto stepFitsSpec)

/-- 'hoarstonelaw16.StepUsual', WHERE WHAT IT READS IS OF BULK AT MOST 1048576: true; the input reads as it did. -/
def stepUsualUptoRow : OpenClaim := { program := "ytkcgkignhpepkaadoor", sum := "8ca0cb03bb4305828597038f2cf7929c55d6dbbdfffcba1372da3bcac05e18c7", func := "hoarstone/hoarstonelaw16.StepUsual", spec := "stepUsual", unfollowed := true, recurses := true, named := ["hoarstone/hoarstonekit.List", "hoarstone/hoarstonekit.Inc", "hoarstone/hoarstonekit.Add", "hoarstone/hoarstonekit.Total", "hoarstone/hoarstonekit.Down", "hoarstone/hoarstonekit.Bool", "hoarstone/hoarstonekit.Pair", "hoarstone/hoarstonekit.Opt", "hoarstone/hoarstonekit.State", "hoarstone/hoarstonekit.Flip", "hoarstone/hoarstonekit.Abort"], plainKeys := false, apart := false, laid := [("hoarstone/hoarstonekit.Bool", laid_hoarstone_hoarstonekit_Bool), ("hoarstone/hoarstonekit.List", laid_hoarstone_hoarstonekit_List), ("hoarstone/hoarstonekit.Pair", laid_hoarstone_hoarstonekit_Pair), ("hoarstone/hoarstonekit.Opt", laid_hoarstone_hoarstonekit_Opt), ("hoarstone/hoarstonekit.State", laid_hoarstone_hoarstonekit_State), ("hoarstone/hoarstonekit.Flip", laid_hoarstone_hoarstonekit_Flip), ("hoarstone/hoarstonekit.Abort", laid_hoarstone_hoarstonekit_Abort), ("hoarstone/hoarstonekit.Inc", laid_hoarstone_hoarstonekit_Inc), ("hoarstone/hoarstonekit.Add", laid_hoarstone_hoarstonekit_Add), ("hoarstone/hoarstonekit.Total", laid_hoarstone_hoarstonekit_Total), ("hoarstone/hoarstonekit.Down", laid_hoarstone_hoarstonekit_Down)], narrowed := true }
def StepUsualUptoSaid : Prop := stepUsualUptoRow.holds Tryd.pinned (OpenSpec.upto stepUsualSpec)

end Rows
end Go.Proofs.YtkcgkignhpepkaaDoor
