/- Part 7 of the proof: lemmas on walks and the walks of the functions, in their order. -/
import Derived.Test.YtkcgkignhpepkaaGreatDoorW6
set_option linter.unusedSimpArgs false
set_option linter.unusedVariables false
set_option linter.unusedSectionVars false
set_option linter.constructorNameAsVariable false
/- StepWithin: the card. -/
namespace Go.Proofs.YtkcgkignhpepkaaGreatDoor.stepWithin
open Go Hs
open Go.ChangeShapes Go.WideShapes Go.ChangeAt Go.RowKit
def tabs : List (Nat × Int) := [(0, (11 : Int)), (1, 3), (2, 13), (3, 12), (4, 21), (5, 2), (6, 4), (7, 24), (8, 1), (9, 22), (10, 23)]
theorem tabs_g : gOf tabs = gL := rfl
theorem tabs_of {W : World} (h : laidMetH Tryz.prog Rows.stepWithinRow.laid W) : TabsL tabs W := by
 intro g n hm
 simp only [tabs, List.mem_cons, Prod.mk.injEq, List.not_mem_nil, or_false] at hm
 rcases hm with ⟨rfl, rfl⟩ | ⟨rfl, rfl⟩ | ⟨rfl, rfl⟩ | ⟨rfl, rfl⟩ | ⟨rfl, rfl⟩ | ⟨rfl, rfl⟩ | ⟨rfl, rfl⟩ | ⟨rfl, rfl⟩ | ⟨rfl, rfl⟩ | ⟨rfl, rfl⟩ | ⟨rfl, rfl⟩
 all_goals first
  | exact tab_one (name := "hoarstone/hoarstonekit.List") h (by rfl) (by kernel_rfl) (by kernel_rfl)
  | exact tab_one (name := "hoarstone/hoarstonekit.Inc") h (by rfl) (by kernel_rfl) (by kernel_rfl)
  | exact tab_one (name := "hoarstone/hoarstonekit.Add") h (by rfl) (by kernel_rfl) (by kernel_rfl)
  | exact tab_one (name := "hoarstone/hoarstonekit.Total") h (by rfl) (by kernel_rfl) (by kernel_rfl)
  | exact tab_one (name := "hoarstone/hoarstonekit.Down") h (by rfl) (by kernel_rfl) (by kernel_rfl)
  | exact tab_one (name := "hoarstone/hoarstonekit.State") h (by rfl) (by kernel_rfl) (by kernel_rfl)
  | exact tab_one (name := "hoarstone/hoarstonekit.Bool") h (by rfl) (by kernel_rfl) (by kernel_rfl)
  | exact tab_one (name := "hoarstone/hoarstonekit.Pair") h (by rfl) (by kernel_rfl) (by kernel_rfl)
  | exact tab_one (name := "hoarstone/hoarstonekit.Opt") h (by rfl) (by kernel_rfl) (by kernel_rfl)
  | exact tab_one (name := "hoarstone/hoarstonekit.Flip") h (by rfl) (by kernel_rfl) (by kernel_rfl)
  | exact tab_one (name := "hoarstone/hoarstonekit.Abort") h (by rfl) (by kernel_rfl) (by kernel_rfl)
theorem par : Tryz.f6.params = #[48, 5] := by kernel_rfl
theorem two {Q : TypeId → Value → Prop} {a b : TypeId} {x y : Value} (h : ∀ (j : Nat) t v, (#[a, b] : Array TypeId)[j]? = some t → (#[x, y] : Array Value)[j]? = some v → Q t v) : Q a x ∧ Q b y :=
 ⟨h 0 a x rfl rfl, h 1 b y rfl rfl⟩
set_option maxRecDepth 100000 in
theorem contract (H : Type) (enc : TypeId × Value → H) (W : World) (base : Nat) (args : Array Value) (ds gs : List (DataW H)) (before : List MemPlace)
  (hval : ∀ (j : Nat) t v, Tryz.f6.params[j]? = some t → args[j]? = some v → Value.okWide Tryz.prog W .any base t v)
  (hW : DataW.Whole enc Tryz.prog Tryz.f6.params.toList Rows.stepWithinSpec.vars false W args.toList ds gs before) (hL : laidMetH Tryz.prog Rows.stepWithinRow.laid W) :
  Calls Tryz.prog 6 args W fun e W' => ∃ v, e = .returned v ∧ Rows.stepWithinSpec.post enc Tryz.prog Tryz.f6 false true false false W args v W' := by
 have hT := tabs_of hL
 have hW' := hW
 obtain ⟨p, q, hA0, hV, rfl, hfz, hnd⟩ := hW
 have hA : DataW.TrodAll enc Tryz.prog W 0 (fun _ => true) true Tryz.f6.params.toList args.toList ds p := hA0
 rw [par] at hA hval
 obtain ⟨v0, vs0, d0, ds0, p0, q0, hargs, rfl, rfl, h0, r0⟩ := trodAll_cons hA
 obtain ⟨v1, vs1, d1, ds1, p1, q1, e1, rfl, rfl, h1, r1⟩ := trodAll_cons r0
 obtain ⟨rfl, rfl, rfl⟩ := trodAll_nil r1
 subst e1
 obtain rfl : args = #[v0, v1] := by cases args; simp_all
 obtain ⟨rfl, rfl⟩ := trodVars_none hV
 obtain ⟨hv0, hv1⟩ := two hval
 clear hval
 obtain ⟨a, rfl, rfl, rfl, wa⟩ := open_int c_u8 hv1 h1
 simp only [List.append_nil] at hW' hA0
 have hlt : ∀ x ∈ p0, x.block < W.heap.size := fun x hx => by simpa using hW'.lt x (by simpa using hx)
 obtain ⟨l, hl, hll, hag, hvr⟩ := byte_arg hv0 h0 hlt
 have wa' : 0 ≤ a ∧ a ≤ 255 := by simpa [Lit.wf, IntKind.min, IntKind.max, IntKind.signed, IntKind.bits] using wa
 have hc := stepWithin_c l hll a wa'
 rw [← tabs_g] at hc
 refine (call_of (l := tabs) hT hc (xs := #[v0, .int .u8 a]) (.cons hvr hag (.cons (.pu (.leaf rfl)) rfl .nil))).mono fun e W' ⟨he, hb⟩ => ?_
 subst he
 have s0 := Below.trod laidOutD (by kernel_rfl) (of_decide_eq_true (by kernel_rfl)) h0 hb hlt
 refine ⟨_, rfl, _, _, _, [], p0 ++ ([] ++ []), [], hW', ?_, ?_, rfl, ?_, fun h => by cases h⟩
 ·exact trodAll_mk1 (shut_bool undB _)
 ·exact trodAll_mk2 s0 (shut_int c_u8 wa)
 ·simpa using hb.frame _
theorem own : ownKnob Tryz.prog.godebug = none := by kernel_rfl
noncomputable def lay (h : Array Obj) (g : Nat) (n : Int) : Array Obj := h.modify g fun
 | .cells _ t frozen => .cells ((sumR n).map fun z => Value.int .u8 z).toArray t frozen
 | o => o
noncomputable def zeros : Array Value := #[.slice none 0 0, .int .u8 0]
noncomputable def laidWorld (os : Os) : World :=
 { World.holding Tryz.prog os ⟨#[], #[], []⟩ with heap := tabs.foldl (fun h (x : Nat × Int) => lay h x.1 x.2) (World.holding Tryz.prog os ⟨#[], #[], []⟩).heap }
theorem laid_met (os : Os) : laidMet Tryz.prog Rows.stepWithinRow.laid ((laidWorld os).forCall (fun _ _ => 0) ⟨#[], zeros, []⟩).memory :=
 laidMet_of_run' 8 (by kernel_rfl) (by kernel_rfl)
theorem reads (os : Os) {H : Type} (enc : TypeId × Value → H) : ∃ places, DataW.whole enc Tryz.prog ((laidWorld os).forCall (fun _ _ => 0) ⟨#[], zeros, []⟩).memory Tryz.f6.params.toList Rows.stepWithinSpec.vars false zeros.toList 8 = some ([.nil, .lit (.int .u8 0)], [], places) :=
 ⟨[], by kernel_rfl⟩
set_option maxRecDepth 100000 in
theorem lifted (os : Os) (started : os.Started) (H : Type) (enc : TypeId × Value → H) (F : Stop.Interp) :
  ReturnsInHanded {} Tryz.checked os 6 .any ((OpenSpec.ofChange Rows.stepWithinSpec).preRow enc Tryz.prog Tryz.f6 Rows.stepWithinRow.domain false Rows.stepWithinRow.laid) (((OpenSpec.ofChange Rows.stepWithinSpec).at F).post enc Tryz.prog Tryz.f6 false true false false) := by
 obtain ⟨places, hx⟩ := reads os enc
 refine returnsInHanded_of_row (C := Tryz.checked) (s := OpenSpec.ofChange Rows.stepWithinSpec) own started (by kernel_rfl) Tryz.func6
  (witness_row_at (enc := enc) (C := Tryz.checked) false (laidWorld os) zeros rfl (by kernel_rfl) (by kernel_rfl) (by kernel_rfl)
   (OpenSpec.preRow_of_cond 8 hx (by kernel_rfl) (fun k hk => by cases hk) (by kernel_rfl) (laid_met os))) ?_
 intro W base args ds gs before hval hW _ _ _ hL _ _
 exact contract H enc W base args ds gs before hval hW hL
set_option maxHeartbeats 100000000 in
theorem facts : joinedFacts Tryz.pinned.checked.prog 6 Tryz.f6 (OpenSpec.ofChange Rows.stepWithinSpec).bare Rows.stepWithinRow = true := by
 unfold joinedFacts
 repeat' (with_reducible refine and_t ?_ ?_)
 all_goals (as_aux_lemma => kernel_rfl)
theorem said : Rows.StepWithinSaid :=
 OpenClaim.holds_of_cond 6 Tryz.f6 rfl rfl rfl rfl rfl rfl rfl ⟨rfl, rfl, rfl, rfl, rfl⟩ rfl rfl rfl rfl rfl (by kernel_rfl) Tryz.func6 facts
  (of_decide_eq_true (by kernel_rfl)) (by unfold Func.isWrapper; first | (rw [if_pos (by decide +kernel)]; kernel_rfl) | (rw [if_neg (by decide +kernel)]; exact ⟨rfl, rfl⟩))
  (fun os started H enc _ F => by rw [OpenClaim.pre_eq_preRow]; exact lifted os started H enc F)
theorem plain (f : FuncId) (fn : Func) (hf : Tryz.pinned.checked.prog.funcNamed "hoarstone/hoarstonelaw16.StepWithin" = some f) (hfn : Tryz.pinned.checked.prog.funcs[f]? = some fn) :
  false = Tryz.pinned.checked.prog.looks [] ∧ ∀ (j : Nat) t, fn.params[j]? = some t → Tryz.pinned.checked.prog.wantsStandIn t = false := by
 obtain rfl : f = 6 := Option.some.inj ((show Tryz.prog.funcNamed "hoarstone/hoarstonelaw16.StepWithin" = some 6 by kernel_rfl).symm.trans hf) |>.symm
 obtain rfl : fn = Tryz.f6 := (Option.some.inj (Tryz.func6.symm.trans hfn)).symm
 refine ⟨by kernel_rfl, fun j t ht => ?_⟩
 rw [par] at ht
 have hm := Array.mem_of_getElem? ht
 have q0 : Tryz.prog.wantsStandIn 48 = false := by kernel_rfl
 have q1 : Tryz.prog.wantsStandIn 5 = false := by kernel_rfl
 simp only [List.mem_toArray, List.mem_cons, List.not_mem_nil, or_false] at hm
 rcases hm with rfl | rfl
 ·exact q0
 ·exact q1
theorem card : Rows.StepWithinCardSaid :=
 Claim7.holds_tied_plain_at .later [] _ _ _ _ said (fun _ h => by cases h) (by kernel_rfl) (fun _ h => by cases h) stepWithin_row_tie rfl ⟨rfl, rfl⟩ (by kernel_rfl) rfl plain (by kernel_rfl)
end Go.Proofs.YtkcgkignhpepkaaGreatDoor.stepWithin

