/- Part 8 of the proof: lemmas on walks and the walks of the functions, in their order. -/
import Derived.Test.YtkcgkignhpepkaaGreatDoorY7
set_option linter.unusedSimpArgs false
set_option linter.unusedVariables false
set_option linter.unusedSectionVars false
set_option linter.constructorNameAsVariable false
/- StepSmall: the card. -/
namespace Go.Proofs.YtkcgkignhpepkaaGreatDoor.stepSmall
open Go Hs
section
open Go.ChangeShapes Go.WideShapes Go.ChangeAt Go.RowKit
def tabs : List (Nat × Int) := [(0, (11 : Int)), (1, 3), (2, 13), (3, 12), (4, 21), (5, 2), (6, 4), (7, 24), (8, 1), (9, 22), (10, 23)]
theorem cd1 : gOf tabs = gL := rfl
theorem bS8 {W : World} (h : laidMetH Tryz.prog Rows.stepSmallRow.laid W) : bx8 tabs W := by
 intro g n hm
 simp only [tabs, List.mem_cons, Prod.mk.injEq, List.not_mem_nil, or_false] at hm
 rcases hm with ⟨rfl, rfl⟩ | ⟨rfl, rfl⟩ | ⟨rfl, rfl⟩ | ⟨rfl, rfl⟩ | ⟨rfl, rfl⟩ | ⟨rfl, rfl⟩ | ⟨rfl, rfl⟩ | ⟨rfl, rfl⟩ | ⟨rfl, rfl⟩ | ⟨rfl, rfl⟩ | ⟨rfl, rfl⟩
 all_goals first
  | exact O1 (name := "hoarstone/hoarstonekit.List") h (by rfl) (by kernel_rfl) (by kernel_rfl)
  | exact O1 (name := "hoarstone/hoarstonekit.Inc") h (by rfl) (by kernel_rfl) (by kernel_rfl)
  | exact O1 (name := "hoarstone/hoarstonekit.Add") h (by rfl) (by kernel_rfl) (by kernel_rfl)
  | exact O1 (name := "hoarstone/hoarstonekit.Total") h (by rfl) (by kernel_rfl) (by kernel_rfl)
  | exact O1 (name := "hoarstone/hoarstonekit.Down") h (by rfl) (by kernel_rfl) (by kernel_rfl)
  | exact O1 (name := "hoarstone/hoarstonekit.State") h (by rfl) (by kernel_rfl) (by kernel_rfl)
  | exact O1 (name := "hoarstone/hoarstonekit.Bool") h (by rfl) (by kernel_rfl) (by kernel_rfl)
  | exact O1 (name := "hoarstone/hoarstonekit.Pair") h (by rfl) (by kernel_rfl) (by kernel_rfl)
  | exact O1 (name := "hoarstone/hoarstonekit.Opt") h (by rfl) (by kernel_rfl) (by kernel_rfl)
  | exact O1 (name := "hoarstone/hoarstonekit.Flip") h (by rfl) (by kernel_rfl) (by kernel_rfl)
  | exact O1 (name := "hoarstone/hoarstonekit.Abort") h (by rfl) (by kernel_rfl) (by kernel_rfl)
theorem par : Tryz.f10.params = #[] := by kernel_rfl
set_option maxRecDepth 100000 in
theorem bQ1 (H : Type) (enc : TypeId × Value → H) (W : World) (base : Nat) (args : Array Value) (ds gs : List (DataW H)) (before : List MemPlace)
  (hval : ∀ (j : Nat) t v, Tryz.f10.params[j]? = some t → args[j]? = some v → Value.okWide Tryz.prog W .any base t v)
  (hW : DataW.Whole enc Tryz.prog Tryz.f10.params.toList Rows.stepSmallSpec.vars false W args.toList ds gs before) (hL : laidMetH Tryz.prog Rows.stepSmallRow.laid W) :
  Calls Tryz.prog 10 args W fun e W' => ∃ v, e = .returned v ∧ Rows.stepSmallSpec.post enc Tryz.prog Tryz.f10 false true false false W args v W' := by
 have hT := bS8 hL
 have hW' := hW
 obtain ⟨p, q, hA0, hV, rfl, hfz, hnd⟩ := hW
 have hA : DataW.TrodAll enc Tryz.prog W 0 (fun _ => true) true Tryz.f10.params.toList args.toList ds p := hA0
 rw [par] at hA
 obtain ⟨hargs, rfl, rfl⟩ := trodAll_nil hA
 obtain rfl : args = #[] := by cases args; simp_all
 obtain ⟨rfl, rfl⟩ := trodVars_none hV
 simp only [List.append_nil] at hW' hA0
 have hc := ba4
 rw [← cd1] at hc
 refine (bY0 (l := tabs) hT hc (xs := #[]) .nil).mono fun e W' ⟨he, hb⟩ => ?_
 subst he
 refine ⟨_, rfl, _, _, _, [], [], [], hW', ?_, ?_, rfl, ?_, fun h => by cases h⟩
 ·exact trodAll_mk1 (shut_bool undB _)
 ·exact trodAll_mk0
 ·simpa using hb.frame _
theorem own : ownKnob Tryz.prog.godebug = none := by kernel_rfl
noncomputable def lay (h : Array Obj) (g : Nat) (n : Int) : Array Obj := h.modify g fun
 | .cells _ t frozen => .cells ((j5 n).map fun z => Value.int .u8 z).toArray t frozen
 | o => o
noncomputable def zeros : Array Value := #[]
noncomputable def aw8 (os : Os) : World :=
 { World.holding Tryz.prog os ⟨#[], #[], []⟩ with heap := tabs.foldl (fun h (x : Nat × Int) => lay h x.1 x.2) (World.holding Tryz.prog os ⟨#[], #[], []⟩).heap }
theorem bN2 (os : Os) : laidMet Tryz.prog Rows.stepSmallRow.laid ((aw8 os).forCall (fun _ _ => 0) ⟨#[], zeros, []⟩).memory :=
 laidMet_of_run' 8 (by kernel_rfl) (by kernel_rfl)
theorem reads (os : Os) {H : Type} (enc : TypeId × Value → H) : ∃ places, DataW.whole enc Tryz.prog ((aw8 os).forCall (fun _ _ => 0) ⟨#[], zeros, []⟩).memory Tryz.f10.params.toList Rows.stepSmallSpec.vars false zeros.toList 8 = some ([], [], places) :=
 ⟨[], by kernel_rfl⟩
set_option maxRecDepth 100000 in
theorem cf2 (os : Os) (started : os.Started) (H : Type) (enc : TypeId × Value → H) (F : Stop.Interp) :
  ReturnsInHanded {} Tryz.checked os 10 .any ((OpenSpec.ofChange Rows.stepSmallSpec).preRow enc Tryz.prog Tryz.f10 Rows.stepSmallRow.domain false Rows.stepSmallRow.laid) (((OpenSpec.ofChange Rows.stepSmallSpec).at F).post enc Tryz.prog Tryz.f10 false true false false) := by
 obtain ⟨places, hx⟩ := reads os enc
 refine returnsInHanded_of_row (C := Tryz.checked) (s := OpenSpec.ofChange Rows.stepSmallSpec) own started (by kernel_rfl) Tryz.func10
  (witness_row_at (enc := enc) (C := Tryz.checked) false (aw8 os) zeros rfl (by kernel_rfl) (by kernel_rfl) (by kernel_rfl)
   (OpenSpec.preRow_of_cond 8 hx (by kernel_rfl) (fun k hk => by cases hk) (by kernel_rfl) (bN2 os))) ?_
 intro W base args ds gs before hval hW _ _ _ hL _ _
 exact bQ1 H enc W base args ds gs before hval hW hL
set_option maxHeartbeats 100000000 in
theorem ck0 : joinedFacts Tryz.pinned.checked.prog 10 Tryz.f10 (OpenSpec.ofChange Rows.stepSmallSpec).bare Rows.stepSmallRow = true := by
 unfold joinedFacts
 repeat' (with_reducible refine cm0 ?_ ?_)
 all_goals (as_aux_lemma => kernel_rfl)
theorem said : Rows.StepSmallSaid :=
 OpenClaim.holds_of_cond 10 Tryz.f10 rfl rfl rfl rfl rfl rfl rfl ⟨rfl, rfl, rfl, rfl, rfl⟩ rfl rfl rfl rfl rfl (by kernel_rfl) Tryz.func10 ck0
  (of_decide_eq_true (by kernel_rfl)) (by unfold Func.isWrapper; first | (rw [if_pos (by decide +kernel)]; kernel_rfl) | (rw [if_neg (by decide +kernel)]; exact ⟨rfl, rfl⟩))
  (fun os started H enc _ F => by rw [OpenClaim.pre_eq_preRow]; exact cf2 os started H enc F)
theorem cb0 (f : FuncId) (fn : Func) (hf : Tryz.pinned.checked.prog.funcNamed "hoarstone/hoarstonelaw16.StepSmall" = some f) (hfn : Tryz.pinned.checked.prog.funcs[f]? = some fn) :
  false = Tryz.pinned.checked.prog.looks [] ∧ ∀ (j : Nat) t, fn.params[j]? = some t → Tryz.pinned.checked.prog.wantsStandIn t = false := by
 obtain rfl : f = 10 := Option.some.inj ((show Tryz.prog.funcNamed "hoarstone/hoarstonelaw16.StepSmall" = some 10 by kernel_rfl).symm.trans hf) |>.symm
 obtain rfl : fn = Tryz.f10 := (Option.some.inj (Tryz.func10.symm.trans hfn)).symm
 refine ⟨by kernel_rfl, fun j t ht => ?_⟩
 rw [par] at ht
 simp at ht
theorem card : Rows.StepSmallCardSaid :=
 Claim7.holds_tied_plain_at .later [] _ _ _ _ said (fun _ h => by cases h) (by kernel_rfl) (fun _ h => by cases h) stepSmall_row_tie rfl ⟨rfl, rfl⟩ (by kernel_rfl) rfl cb0 (by kernel_rfl)
end
end Go.Proofs.YtkcgkignhpepkaaGreatDoor.stepSmall
