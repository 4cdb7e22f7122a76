/- Part 8 of the proof: lemmas on walks and the walks of the functions, in their order. -/
import Derived.Test.YtkcgkignhpepkaaGreatDoorZ7
set_option linter.unusedSimpArgs false
set_option linter.unusedVariables false
set_option linter.unusedSectionVars false
set_option linter.constructorNameAsVariable false
/- StepSteady: the card. -/
namespace Go.Proofs.YtkcgkignhpepkaaGreatDoor.stepSteady
open Go Hs
section
open Go.ChangeShapes Go.WideShapes Go.ChangeAt Go.RowKit
def tabs : List (Nat × Int) := [(0, (11 : Int)), (1, 3), (2, 13), (3, 12), (4, 21), (5, 2), (6, 4), (7, 24), (8, 1), (9, 22), (10, 23)]
theorem bW2 : gOf tabs = gL := rfl
theorem bJ5 {W : World} (h : laidMetH Tryz.prog Rows.stepSteadyRow.laid W) : bl6 tabs W := by
 intro g n hm
 simp only [tabs, List.mem_cons, Prod.mk.injEq, List.not_mem_nil, or_false] at hm
 rcases hm with ⟨rfl, rfl⟩ | ⟨rfl, rfl⟩ | ⟨rfl, rfl⟩ | ⟨rfl, rfl⟩ | ⟨rfl, rfl⟩ | ⟨rfl, rfl⟩ | ⟨rfl, rfl⟩ | ⟨rfl, rfl⟩ | ⟨rfl, rfl⟩ | ⟨rfl, rfl⟩ | ⟨rfl, rfl⟩
 all_goals first
  | exact J1 (name := "hoarstone/hoarstonekit.List") h (by rfl) (by kernel_rfl) (by kernel_rfl)
  | exact J1 (name := "hoarstone/hoarstonekit.Inc") h (by rfl) (by kernel_rfl) (by kernel_rfl)
  | exact J1 (name := "hoarstone/hoarstonekit.Add") h (by rfl) (by kernel_rfl) (by kernel_rfl)
  | exact J1 (name := "hoarstone/hoarstonekit.Total") h (by rfl) (by kernel_rfl) (by kernel_rfl)
  | exact J1 (name := "hoarstone/hoarstonekit.Down") h (by rfl) (by kernel_rfl) (by kernel_rfl)
  | exact J1 (name := "hoarstone/hoarstonekit.State") h (by rfl) (by kernel_rfl) (by kernel_rfl)
  | exact J1 (name := "hoarstone/hoarstonekit.Bool") h (by rfl) (by kernel_rfl) (by kernel_rfl)
  | exact J1 (name := "hoarstone/hoarstonekit.Pair") h (by rfl) (by kernel_rfl) (by kernel_rfl)
  | exact J1 (name := "hoarstone/hoarstonekit.Opt") h (by rfl) (by kernel_rfl) (by kernel_rfl)
  | exact J1 (name := "hoarstone/hoarstonekit.Flip") h (by rfl) (by kernel_rfl) (by kernel_rfl)
  | exact J1 (name := "hoarstone/hoarstonekit.Abort") h (by rfl) (by kernel_rfl) (by kernel_rfl)
theorem par : Tryz.f11.params = #[48, 48, 5] := by kernel_rfl
theorem three {Q : TypeId → Value → Prop} {a b c : TypeId} {x y z : Value} (h : ∀ (j : Nat) t v, (#[a, b, c] : Array TypeId)[j]? = some t → (#[x, y, z] : Array Value)[j]? = some v → Q t v) : Q a x ∧ Q b y ∧ Q c z :=
 ⟨h 0 a x rfl rfl, h 1 b y rfl rfl, h 2 c z rfl rfl⟩
set_option maxRecDepth 100000 in
theorem bG6 (H : Type) (enc : TypeId × Value → H) (W : World) (base : Nat) (args : Array Value) (ds gs : List (DataW H)) (before : List MemPlace)
  (hval : ∀ (j : Nat) t v, Tryz.f11.params[j]? = some t → args[j]? = some v → Value.okWide Tryz.prog W .any base t v)
  (hW : DataW.Whole enc Tryz.prog Tryz.f11.params.toList Rows.stepSteadySpec.vars false W args.toList ds gs before) (hL : laidMetH Tryz.prog Rows.stepSteadyRow.laid W) :
  Calls Tryz.prog 11 args W fun e W' => ∃ v, e = .returned v ∧ Rows.stepSteadySpec.post enc Tryz.prog Tryz.f11 false true false false W args v W' := by
 have hT := bJ5 hL
 have hW' := hW
 obtain ⟨p, q, hA0, hV, rfl, hfz, hnd⟩ := hW
 have hA : DataW.TrodAll enc Tryz.prog W 0 (fun _ => true) true Tryz.f11.params.toList args.toList ds p := hA0
 rw [par] at hA hval
 obtain ⟨v0, vs0, d0, ds0, p0, q0, hargs, rfl, rfl, h0, r0⟩ := trodAll_cons hA
 obtain ⟨v1, vs1, d1, ds1, p1, q1, e1, rfl, rfl, h1, r1⟩ := trodAll_cons r0
 obtain ⟨v2, vs2, d2, ds2, p2, q2, e2, rfl, rfl, h2, r2⟩ := trodAll_cons r1
 obtain ⟨rfl, rfl, rfl⟩ := trodAll_nil r2
 subst e2 e1
 obtain rfl : args = #[v0, v1, v2] := by cases args; simp_all
 obtain ⟨rfl, rfl⟩ := trodVars_none hV
 obtain ⟨hv0, hv1, hv2⟩ := three hval
 clear hval
 obtain ⟨a, rfl, rfl, rfl, wa⟩ := open_int cb0 hv2 h2
 simp only [List.append_nil] at hW' hA0
 have hlt : ∀ x ∈ p0, x.block < W.heap.size := fun x hx => by simpa using hW'.lt x (by simp [hx])
 have hlt1 : ∀ x ∈ p1, x.block < W.heap.size := fun x hx => by simpa using hW'.lt x (by simp [hx])
 obtain ⟨l, hl, hll, hag, hvr⟩ := aU7 hv0 h0 hlt
 obtain ⟨m, hm, hml, hag1, hvr1⟩ := aU7 hv1 h1 hlt1
 have wa' : 0 ≤ a ∧ a ≤ 255 := by simpa [Lit.wf, IntKind.min, IntKind.max, IntKind.signed, IntKind.bits] using wa
 have hc := aF8 l m hll hml a wa'
 rw [← bW2] at hc
 refine (bR1 (l := tabs) hT hc (xs := #[v0, v1, .int .u8 a]) (.cons hvr hag (.cons hvr1 hag1 (.cons (.pu (.leaf rfl)) rfl .nil)))).mono fun e W' ⟨he, hb⟩ => ?_
 subst he
 have s0 := Below.trod aQ9 (by kernel_rfl) (of_decide_eq_true (by kernel_rfl)) h0 hb hlt
 have s1 := Below.trod aQ9 (by kernel_rfl) (of_decide_eq_true (by kernel_rfl)) h1 hb hlt1
 refine ⟨_, rfl, _, _, _, [], p0 ++ (p1 ++ []), [], hW', ?_, ?_, rfl, ?_, fun h => by cases h⟩
 ·exact trodAll_mk1 (shut_bool undB _)
 ·exact trodAll_mk3 s0 s1 (shut_int cb0 wa)
 ·simpa using hb.frame _
theorem own : ownKnob Tryz.prog.godebug = none := by kernel_rfl
noncomputable def lay (h : Array Obj) (g : Nat) (n : Int) : Array Obj := h.modify g fun
 | .cells _ t frozen => .cells ((b7 n).map fun z => Value.int .u8 z).toArray t frozen
 | o => o
noncomputable def zeros : Array Value := #[.slice none 0 0, .slice none 0 0, .int .u8 0]
noncomputable def am2 (os : Os) : World :=
 { World.holding Tryz.prog os ⟨#[], #[], []⟩ with heap := tabs.foldl (fun h (x : Nat × Int) => lay h x.1 x.2) (World.holding Tryz.prog os ⟨#[], #[], []⟩).heap }
theorem bC4 (os : Os) : laidMet Tryz.prog Rows.stepSteadyRow.laid ((am2 os).forCall (fun _ _ => 0) ⟨#[], zeros, []⟩).memory :=
 laidMet_of_run' 8 (by kernel_rfl) (by kernel_rfl)
theorem reads (os : Os) {H : Type} (enc : TypeId × Value → H) : ∃ places, DataW.whole enc Tryz.prog ((am2 os).forCall (fun _ _ => 0) ⟨#[], zeros, []⟩).memory Tryz.f11.params.toList Rows.stepSteadySpec.vars false zeros.toList 8 = some ([.nil, .nil, .lit (.int .u8 0)], [], places) :=
 ⟨[], by kernel_rfl⟩
set_option maxRecDepth 100000 in
theorem bY7 (os : Os) (started : os.Started) (H : Type) (enc : TypeId × Value → H) (F : Stop.Interp) :
  ReturnsInHanded {} Tryz.checked os 11 .any ((OpenSpec.ofChange Rows.stepSteadySpec).preRow enc Tryz.prog Tryz.f11 Rows.stepSteadyRow.domain false Rows.stepSteadyRow.laid) (((OpenSpec.ofChange Rows.stepSteadySpec).at F).post enc Tryz.prog Tryz.f11 false true false false) := by
 obtain ⟨places, hx⟩ := reads os enc
 refine returnsInHanded_of_row (C := Tryz.checked) (s := OpenSpec.ofChange Rows.stepSteadySpec) own started (by kernel_rfl) Tryz.func11
  (witness_row_at (enc := enc) (C := Tryz.checked) false (am2 os) zeros rfl (by kernel_rfl) (by kernel_rfl) (by kernel_rfl)
   (OpenSpec.preRow_of_cond 8 hx (by kernel_rfl) (fun k hk => by cases hk) (by kernel_rfl) (bC4 os))) ?_
 intro W base args ds gs before hval hW _ _ _ hL _ _
 exact bG6 H enc W base args ds gs before hval hW hL
set_option maxHeartbeats 100000000 in
theorem ce9 : joinedFacts Tryz.pinned.checked.prog 11 Tryz.f11 (OpenSpec.ofChange Rows.stepSteadySpec).bare Rows.stepSteadyRow = true := by
 unfold joinedFacts
 repeat' (with_reducible refine cg7 ?_ ?_)
 all_goals (as_aux_lemma => kernel_rfl)
theorem said : Rows.StepSteadySaid :=
 OpenClaim.holds_of_cond 11 Tryz.f11 rfl rfl rfl rfl rfl rfl rfl ⟨rfl, rfl, rfl, rfl, rfl⟩ rfl rfl rfl rfl rfl (by kernel_rfl) Tryz.func11 ce9
  (of_decide_eq_true (by kernel_rfl)) (by unfold Func.isWrapper; first | (rw [if_pos (by decide +kernel)]; kernel_rfl) | (rw [if_neg (by decide +kernel)]; exact ⟨rfl, rfl⟩))
  (fun os started H enc _ F => by rw [OpenClaim.pre_eq_preRow]; exact bY7 os started H enc F)
theorem bT5 (f : FuncId) (fn : Func) (hf : Tryz.pinned.checked.prog.funcNamed "hoarstone/hoarstonelaw16.StepSteady" = some f) (hfn : Tryz.pinned.checked.prog.funcs[f]? = some fn) :
  false = Tryz.pinned.checked.prog.looks [] ∧ ∀ (j : Nat) t, fn.params[j]? = some t → Tryz.pinned.checked.prog.wantsStandIn t = false := by
 obtain rfl : f = 11 := Option.some.inj ((show Tryz.prog.funcNamed "hoarstone/hoarstonelaw16.StepSteady" = some 11 by kernel_rfl).symm.trans hf) |>.symm
 obtain rfl : fn = Tryz.f11 := (Option.some.inj (Tryz.func11.symm.trans hfn)).symm
 refine ⟨by kernel_rfl, fun j t ht => ?_⟩
 rw [par] at ht
 have hm := Array.mem_of_getElem? ht
 have q0 : Tryz.prog.wantsStandIn 48 = false := by kernel_rfl
 have q1 : Tryz.prog.wantsStandIn 5 = false := by kernel_rfl
 simp only [List.mem_toArray, List.mem_cons, List.not_mem_nil, or_false] at hm
 rcases hm with rfl | rfl | rfl
 ·exact q0
 ·exact q0
 ·exact q1
theorem card : Rows.StepSteadyCardSaid :=
 Claim7.holds_tied_plain_at .later [] _ _ _ _ said (fun _ h => by cases h) (by kernel_rfl) (fun _ h => by cases h) stepSteady_row_tie rfl ⟨rfl, rfl⟩ (by kernel_rfl) rfl bT5 (by kernel_rfl)
end
end Go.Proofs.YtkcgkignhpepkaaGreatDoor.stepSteady
