/- Part 7 of the proof: lemmas on walks and the walks of the functions, in their order. -/
import Derived.Test.YtkcgkignhpepkaaDoorM6
import Derived.Deep.DeepHandedRow
set_option linter.unusedSimpArgs false
set_option linter.unusedVariables false
/- The walk from the row's condition: the contract. -/
namespace Go.Proofs.YtkcgkignhpepkaaDoor
open Go Hs
open Go.ChangeShapes Go.WideShapes Go.ChangeAt Go.RowKit

theorem laidOutD : laidOutB Tryd.prog = true := by kernel_rfl
theorem undS : Tryd.prog.underlying 47 = some (.slice 5) := by kernel_rfl
theorem und5 : Tryd.prog.underlying 5 = some (.int .u8) := by kernel_rfl
theorem cel5 : Tryd.prog.cellsOf 5 = 1 := by kernel_rfl
theorem undB : Tryd.prog.underlying 4 = some .bool := by kernel_rfl
theorem par4 : Tryd.f4.params = #[47, 5, 5] := by kernel_rfl

theorem frag0 {W : World} (h : Tabs W) : Frag Tryd.prog gL (cfg0 W) W [] [] where
  heap := fun l ob h => by cases h
  inj := fun l l' b R R' ob ob' h => by cases h
  dObj := fun l ob b R o h => by cases h
  dLt := fun b o h => h
  own := fun b q k h => by cases h
  gl := gl_of_tabs h

/-- The call in a world that holds the package variables. -/
theorem usual_call {W : World} (hT : Tabs W) {a0 : Option Addr} {len cap : Nat} {l : List Int} {a b : Int} (hl : ∀ x ∈ l, 0 ≤ x ∧ x ≤ 255) (hlen : l.length = len) (hcap : len ≤ cap) (hm : len < 2^63) (ha : 0 ≤ a ∧ a ≤ 255) (hb : 0 ≤ b ∧ b ≤ 255)
    (hs : l ≠ [] → ∃ ad : Addr, a0 = some ad ∧ ∀ j (hj : j < l.length), W.cell? (ad.add j) = some (.int .u8 l[j])) (hsp : l ≠ [] → ∀ ad, a0 = some ad → ad.spot = none ∧ ad.block < W.heap.size) :
    Calls Tryd.prog 4 #[.slice a0 len cap, .int .u8 a, .int .u8 b] W fun e W' => e = .returned (.bool true) ∧ Below W.heap.size W W' := by
  have hx : VFs Tryd.prog (cfg0 W) W [.pu (.sl 0 5 (bytL l)), iv .u8 a, iv .u8 b] (#[.slice a0 len cap, .int .u8 a, .int .u8 b] : Array Value).toList := by
    refine .cons (.pu ?_) rfl (.cons (.pu (.leaf rfl)) rfl (.cons (.pu (.leaf rfl)) rfl .nil))
    by_cases h0 : l = []
    · subst h0; subst hlen; exact PR.sl0
    · obtain ⟨ad, rfl, hc⟩ := hs h0
      obtain ⟨h1, h2⟩ := hsp h0 ad rfl
      obtain ⟨bk, off, sp⟩ := ad
      simp only at h1 h2
      subst h1
      have hbl : (bytL l).length = len := by rw [byt_len, hlen]
      have := PR.sl (P := Tryd.prog) (D := (cfg0 W).D) (w := W) (lo := 0) (E := 5) (ps := bytL l) (b := bk) (o := off) (cap := cap) (x := l.map fun z => Value.int .u8 z) (by simpa [bytL] using h0) (by omega)
        (by rw [byt_len, cel5]; exact prs_ints l) (fun j v hj => by
          rw [List.getElem?_map] at hj
          obtain ⟨z, hz, rfl⟩ := Option.map_eq_some_iff.1 hj
          obtain ⟨hjl, rfl⟩ := List.getElem?_eq_some_iff.1 hz
          have hcj := hc j hjl
          refine ⟨?_, h2⟩
          cases j with
          | zero => simpa [Addr.add] using hcj
          | succ j => simpa [Addr.add] using hcj) (.inl rfl)
      rw [hbl] at this
      exact this
  refine (stepUsual_c l a b hl (by omega) ha hb (cfg0 W) W _ (frag0 hT) hx).mono fun e W' ⟨y, C', he, A⟩ => ?_
  subst he
  have hM : ∀ b, ¬ Mset (cfg0 W) [] b := fun b hb => by
    rcases hb with ⟨l, ob, R, h1, _⟩ | ⟨l, p, k, ob, h1, _⟩ <;> cases h1
  refine ⟨?_, ⟨A.os, A.tape, A.output, A.size, fun b hb => A.block b hb (hM b)⟩⟩
  cases A.val with
  | one h hs =>
    have h1 := h.pu_inv
    generalize hc : y.cells.toList = c at h1
    cases h1
    cases y <;> simp_all [Value.cells, valAgg, PV.isAgg]

theorem three {Q : TypeId → Value → Prop} {a b c : TypeId} {x y z : Value} (h : ∀ (j : Nat) t v, (#[a, b, c] : Array TypeId)[j]? = some t → (#[x, y, z] : Array Value)[j]? = some v → Q t v) : Q a x ∧ Q b y ∧ Q c z :=
  ⟨h 0 a x rfl rfl, h 1 b y rfl rfl, h 2 c z rfl rfl⟩

set_option maxRecDepth 100000 in
/-- The contract. -/
theorem contract (H : Type) (enc : TypeId × Value → H) (W : World) (base : Nat) (args : Array Value) (ds gs : List (DataW H)) (before : List MemPlace)
    (hval : ∀ (j : Nat) t v, Tryd.f4.params[j]? = some t → args[j]? = some v → Value.okWide Tryd.prog W .any base t v)
    (hW : DataW.Whole enc Tryd.prog Tryd.f4.params.toList Rows.stepUsualSpec.vars false W args.toList ds gs before) (hL : laidMetH Tryd.prog Rows.stepUsualRow.laid W) :
    Calls Tryd.prog 4 args W fun e W' => ∃ v, e = .returned v ∧ Rows.stepUsualSpec.post enc Tryd.prog Tryd.f4 false true false false W args v W' := by
  have hT := tabs_of_laid hL
  have hW' := hW
  obtain ⟨p, q, hA0, hV, rfl, hfz, hnd⟩ := hW
  have hA : DataW.TrodAll enc Tryd.prog W 0 (fun _ => true) true Tryd.f4.params.toList args.toList ds p := hA0
  rw [par4] at hA hval
  obtain ⟨v0, vs0, d0, ds0, p0, q0, hargs, rfl, rfl, h0, r0⟩ := trodAll_cons hA
  obtain ⟨v1, vs1, d1, ds1, p1, q1, e1, rfl, rfl, h1, r1⟩ := trodAll_cons r0
  obtain ⟨v2, vs2, d2, ds2, p2, q2, e2, rfl, rfl, h2, r2⟩ := trodAll_cons r1
  obtain ⟨rfl, rfl, rfl⟩ := trodAll_nil r2
  subst e2 e1
  obtain rfl : args = #[v0, v1, v2] := by cases args; simp_all
  obtain ⟨rfl, rfl⟩ := trodVars_none hV
  obtain ⟨hv0, hv1, hv2⟩ := three hval
  clear hval
  obtain ⟨a, rfl, rfl, rfl, wa⟩ := open_int und5 hv1 h1
  obtain ⟨b, rfl, rfl, rfl, wb⟩ := open_int und5 hv2 h2
  obtain ⟨a0, len, cap, rfl⟩ := okWide_slice undS hv0
  simp only [List.append_nil] at hW' hA0
  have hlt : ∀ x ∈ p0, x.block < W.heap.size := fun x hx => by simpa using hW'.lt x (by simpa using hx)
  have hargs : ∀ (W' : World), Below W.heap.size W W' → DataW.Trod enc Tryd.prog W' 0 (fun b => decide (b < W.heap.size)) true 47 (.slice a0 len cap) d0 p0 :=
    fun W' hn => Below.trod laidOutD (by kernel_rfl) (of_decide_eq_true (by kernel_rfl)) h0 hn hlt
  have close : Calls Tryd.prog 4 #[.slice a0 len cap, .int .u8 a, .int .u8 b] W (fun e W' => e = .returned (.bool true) ∧ Below W.heap.size W W') →
      Calls Tryd.prog 4 #[.slice a0 len cap, .int .u8 a, .int .u8 b] W fun e W' => ∃ v, e = .returned v ∧ Rows.stepUsualSpec.post enc Tryd.prog Tryd.f4 false true false false W #[.slice a0 len cap, .int .u8 a, .int .u8 b] v W' := fun h => by
    refine h.mono fun e W' ⟨he, hb⟩ => ?_
    subst he
    refine ⟨_, rfl, _, _, _, [], p0 ++ ([] ++ ([] ++ [])), [], hW', ?_, ?_, rfl, ?_, fun h => by cases h⟩
    · exact trodAll_mk1 (shut_bool undB _)
    · exact trodAll_mk3 (hargs _ hb) (shut_int und5 wa) (shut_int und5 wb)
    · simpa using hb.frame _
  refine close ?_
  obtain ⟨fuel, hf⟩ := h0
  have wa' : 0 ≤ a ∧ a ≤ 255 := by simpa [Lit.wf, IntKind.min, IntKind.max, IntKind.signed, IntKind.bits] using wa
  have wb' : 0 ≤ b ∧ b ≤ 255 := by simpa [Lit.wf, IntKind.min, IntKind.max, IntKind.signed, IntKind.bits] using wb
  rcases open_ints undS und5 cel5 hf with ⟨hcs, hx⟩ | ⟨ad, len', cap', zs, hcs, _, hl, hm, hz, hx, hcell, hwz⟩
  · simp [Value.cells] at hcs
    obtain ⟨rfl, rfl, rfl⟩ := hcs
    exact usual_call hT (l := []) (by simp) rfl (Nat.le_refl _) (by omega) wa' wb' (fun h => absurd rfl h) (fun h => absurd rfl h)
  · simp [Value.cells] at hcs
    obtain ⟨rfl, rfl, rfl⟩ := hcs
    simp only [Prod.mk.injEq] at hx
    obtain ⟨rfl, rfl⟩ := hx
    simp only [if_true] at hz
    refine usual_call hT (l := zs.take len) ?_ (by rw [List.length_take]; omega) hl (by simp only [maxLen] at hm; omega) wa' wb' (fun _ => ⟨ad, rfl, fun j hj => ?_⟩) (fun h ad' e => ?_)
    · intro x hx
      have := hwz x (List.mem_of_mem_take hx)
      simpa [Lit.wf, IntKind.min, IntKind.max, IntKind.signed, IntKind.bits] using this
    · have hj' : j < zs.length := by rw [List.length_take] at hj; omega
      rw [hcell j hj', List.getElem_take]
      simp [List.getD_eq_getElem?_getD, hj']
    · cases e
      have hpos : 0 < zs.length := by
        rcases Nat.eq_zero_or_pos zs.length with h' | h'
        · rw [List.length_eq_zero_iff] at h'; subst h'; simp at h
        · exact h'
      have c0 := hcell 0 hpos
      obtain ⟨bk, off, sp⟩ := ad
      exact ⟨by simpa [Addr.add] using World.cell?_spot c0, hlt (.cell bk off) (MemPlace.mem_row.2 ⟨0, by omega, by simp⟩)⟩
end Go.Proofs.YtkcgkignhpepkaaDoor

/- StepUsual: the card. -/
namespace Go.Proofs.YtkcgkignhpepkaaDoor.stepUsual
open Go Hs
open Go.ChangeShapes Go.WideShapes Go.ChangeAt Go.RowKit

theorem own : ownKnob Tryd.prog.godebug = none := by kernel_rfl

/-- A world for the witness: the settled one, each listed variable's block holding what its initialiser lays. -/
noncomputable def lay (h : Array Obj) (g : Nat) (n : Int) : Array Obj := h.modify g fun
  | .cells _ t frozen => .cells ((sumR n).map fun z => Value.int .u8 z).toArray t frozen
  | o => o
noncomputable def laidWorld (os : Os) : World :=
  { World.holding Tryd.prog os ⟨#[], #[], []⟩ with heap := [(0, 2), (1, 21), (2, 22), (3, 23), (4, 24), (5, 11), (6, 1), (7, 3), (8, 4), (9, 12), (10, 13)].foldl (fun h (x : Nat × Int) => lay h x.1 x.2) (World.holding Tryd.prog os ⟨#[], #[], []⟩).heap }
theorem laid_met (os : Os) : laidMet Tryd.prog Rows.stepUsualRow.laid ((laidWorld os).forCall (fun _ _ => 0) ⟨#[], #[.slice none 0 0, .int .u8 0, .int .u8 0], []⟩).memory :=
  laidMet_of_run' 8 (by kernel_rfl) (by kernel_rfl)
theorem reads (os : Os) {H : Type} (enc : TypeId × Value → H) : ∃ places, DataW.whole enc Tryd.prog ((laidWorld os).forCall (fun _ _ => 0) ⟨#[], #[.slice none 0 0, .int .u8 0, .int .u8 0], []⟩).memory Tryd.f4.params.toList Rows.stepUsualSpec.vars false #[Value.slice none 0 0, .int .u8 0, .int .u8 0].toList 8 = some ([.nil, .lit (.int .u8 0), .lit (.int .u8 0)], [], places) :=
  ⟨[], by kernel_rfl⟩

set_option maxRecDepth 100000 in
theorem lifted (os : Os) (started : os.Started) (H : Type) (enc : TypeId × Value → H) (F : Stop.Interp) :
    ReturnsInHanded {} Tryd.checked os 4 .any ((OpenSpec.ofChange Rows.stepUsualSpec).preRow enc Tryd.prog Tryd.f4 Rows.stepUsualRow.domain false Rows.stepUsualRow.laid) (((OpenSpec.ofChange Rows.stepUsualSpec).at F).post enc Tryd.prog Tryd.f4 false true false false) := by
  obtain ⟨places, hx⟩ := reads os enc
  refine returnsInHanded_of_row (C := Tryd.checked) (s := OpenSpec.ofChange Rows.stepUsualSpec) own started (by kernel_rfl) Tryd.func4
    (witness_row_at (enc := enc) (C := Tryd.checked) false (laidWorld os) #[.slice none 0 0, .int .u8 0, .int .u8 0] rfl (by kernel_rfl) (by kernel_rfl) (by kernel_rfl)
      (OpenSpec.preRow_of_cond 8 hx (by kernel_rfl) (fun k hk => by cases hk) (by kernel_rfl) (laid_met os))) ?_
  intro W base args ds gs before hval hW _ _ _ hL _ _
  exact contract H enc W base args ds gs before hval hW hL

theorem said : Rows.StepUsualSaid :=
  OpenClaim.holds_of_cond 4 Tryd.f4 rfl rfl rfl rfl rfl rfl rfl ⟨rfl, rfl, rfl, rfl, rfl⟩ rfl rfl rfl rfl rfl (by kernel_rfl) Tryd.func4 (by kernel_rfl)
    (of_decide_eq_true (by kernel_rfl)) (by unfold Func.isWrapper; first | (rw [if_pos (by decide +kernel)]; kernel_rfl) | (rw [if_neg (by decide +kernel)]; exact ⟨rfl, rfl⟩))
    (fun os started H enc _ F => by rw [OpenClaim.pre_eq_preRow]; exact lifted os started H enc F)

theorem plain (f : FuncId) (fn : Func) (hf : Tryd.pinned.checked.prog.funcNamed "hoarstone/hoarstonelaw16.StepUsual" = some f) (hfn : Tryd.pinned.checked.prog.funcs[f]? = some fn) :
    false = Tryd.pinned.checked.prog.looks [] ∧ ∀ (j : Nat) t, fn.params[j]? = some t → Tryd.pinned.checked.prog.wantsStandIn t = false := by
  obtain rfl : f = 4 := Option.some.inj ((show Tryd.prog.funcNamed "hoarstone/hoarstonelaw16.StepUsual" = some 4 by kernel_rfl).symm.trans hf) |>.symm
  obtain rfl : fn = Tryd.f4 := (Option.some.inj (Tryd.func4.symm.trans hfn)).symm
  refine ⟨by kernel_rfl, fun j t ht => ?_⟩
  rw [par4] at ht
  have hm := Array.mem_of_getElem? ht
  have h47 : Tryd.prog.wantsStandIn 47 = false := by kernel_rfl
  have h5 : Tryd.prog.wantsStandIn 5 = false := by kernel_rfl
  simp only [List.mem_toArray, List.mem_cons, List.not_mem_nil, or_false] at hm
  rcases hm with rfl | rfl | rfl
  · exact h47
  · exact h5
  · exact h5

theorem card : Rows.StepUsualCardSaid :=
  Claim7.holds_tied_plain_at .later [] _ _ _ _ said (fun _ h => by cases h) (by kernel_rfl) (fun _ h => by cases h) stepUsual_row_tie rfl ⟨rfl, rfl⟩ (by kernel_rfl) rfl plain (by kernel_rfl)
end Go.Proofs.YtkcgkignhpepkaaDoor.stepUsual

