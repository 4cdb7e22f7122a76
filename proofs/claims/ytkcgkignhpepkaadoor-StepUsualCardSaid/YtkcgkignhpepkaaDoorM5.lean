/- Part 5 of the proof: lemmas on walks and the walks of the functions, in their order. -/
import Derived.Test.YtkcgkignhpepkaaDoorM4
set_option linter.unusedSimpArgs false
set_option linter.unusedVariables false
/- The checker of terms at a term itself. -/
namespace Go.Proofs.YtkcgkignhpepkaaDoor
open Go Hs
variable {G : List (Nat × TypeId × Pu)}

theorem termBinds_c : ∀ (N : Nat) (p : Pat), psize p ≤ N → N < 2^40 → FCall Tryd.prog G 107 [.pu (patc 0 p)] (iv .i64 (bindsM p)) := by
  intro N
  induction N with
  | zero => intro p h; cases p; simp [psize] at h
  | succ N ih =>
  intro p hp hN
  obtain ⟨k, n, r, ks⟩ := p
  simp only [psize] at hp
  have hlen := length_psizeL ks
  refine FCall.of_tri tbl 22 Tryd.func107 rfl rfl rfl fun w0 M ρ0 D0 => ?_
  repeat refine Tri.seq ?_
  refine Tri.region mixed ?_
  refine s_box SS 1 ?_
  refine s_val (v_assign SS) ?_
  refine e_seqN [1] ?_
  repeat refine Tri.seq ?_
  refine Tri.region mixed ?_
  first | refine s_val (v_field SS) ?_ | refine s_val (v_fieldp SS) ?_
  first | refine s_val (v_load SS) ?_ | refine s_val (v_loadp SS) ?_
  refine s_val (v_int SS) ?_
  refine e_seq ?_
  repeat refine Tri.seq ?_
  refine Tri.cond rfl (fun h0 => ?_) (fun h0 => ?_)
  · skip
    repeat refine Tri.seq ?_
    refine Tri.region mixed ?_
    refine s_val (v_assign SS) ?_
    refine e_seq ?_
    repeat refine Tri.seq ?_
    exact Tri.ret ⟨.inr rfl, ret1 rfl resV_tmp (iv_imp (by simp_all [bindsM]))⟩
  · skip
    refine Tri.skip ?_
    repeat refine Tri.seq ?_
    refine Tri.region mixed ?_
    refine s_val (v_assign SS) ?_
    refine e_seq ?_
    repeat refine Tri.seq ?_
    refine Tri.region mixed ?_
    first | refine s_val (v_field SS) ?_ | refine s_val (v_fieldp SS) ?_
    first | refine s_load SS ?_ | refine s_val (v_loadp SS) ?_
    first | refine s_val (v_len SS) ?_ | refine s_val (v_lenx SS) ?_ | refine s_val (v_len0 SS) ?_ | refine s_val (v_lena SS) ?_
    refine s_val (v_move SS) ?_
    refine e_seq ?_
    repeat refine Tri.seq ?_
    refine Tri.block (Tri.loopW (σ := Nat) (fun i => ⟨[(10, .pu (.sl 0 26 (patsc 0 ks))), (11, iv .i64 (patsc 0 ks).length), (12, iv .i64 i), (3, iv .i64 (bindsL (ks.take i)))], []⟩) (fun i => ks.length - i) 0 ?_ ?_ (fun i => ?_))
    · repeat (first | exact .nil | refine .cons rfl (by first | exact .refl | (focus ((repeat constructor); done))) ?_)
    · repeat (first | exact .nil | refine .cons rfl (by first | exact .refl | (focus ((repeat constructor); done))) ?_)
    repeat refine Tri.seq ?_
    refine Tri.region mixed ?_
    refine s_val (v_int SS) ?_
    refine e_seq ?_
    repeat refine Tri.seq ?_
    refine Tri.cond rfl (fun h1 => ?_) (fun h1 => ?_)
    · skip
      have hi : i < ks.length := by simpa [pats_eq] using h1
      have h1' := bindsL_bound (ks.take i)
      have h2 := binds_bound ks[i]
      have h3 := psizeL_take (ks := ks) (i := i)
      have h4 := psizeL_get hi
      refine Tri.skip ?_
      repeat refine Tri.seq ?_
      refine Tri.block ?_
      repeat refine Tri.seq ?_
      refine Tri.region mixed ?_
      refine s_val (v_index SS (h0 := by omega) (hp := pats_get hi)) ?_
      first | refine s_val (v_load SS) ?_ | refine s_val (v_loadp SS) ?_
      refine s_alloc SS 5 ?_
      refine s_store SS ?_
      refine e_seqN [5] ?_
      repeat refine Tri.seq ?_
      refine Tri.region mixed ?_
      refine s_move SS ?_
      first | refine s_val (v_load SS) ?_ | refine s_val (v_loadp SS) ?_
      refine s_val (v_callD (fun _ => ih ks[i] (by omega) (by omega))) ?_
      refine s_val (v_int SS) ?_
      first | refine s_assignOw ?_ | refine s_val (v_assign SS) ?_
      refine e_seq ?_
      repeat refine Tri.seq ?_
      refine Tri.region mixed ?_
      refine s_val (v_int SS) ?_
      refine s_move SS ?_
      refine e_seq ?_
      refine ⟨i + 1, by omega, le_of ?_ ?_⟩
      · repeat (first | exact SubE.nil | refine SubE.cons rfl (by first | rfl | (rw [wrap64 (by omega) (by omega)]; rfl) | (rw [bindsL_take hi, wrap64 (by omega) (by omega)])) ?_)
      · repeat (first | exact SubH.nil | refine SubH.cons rfl (by first | rfl | (rw [wrap64 (by omega) (by omega)]; rfl) | (rw [bindsL_take hi, wrap64 (by omega) (by omega)])) ?_)
    · skip
      have hi : ks.length ≤ i := by simpa [pats_eq] using h1
      rw [List.take_of_length_le hi]
      refine Tri.exit ?_
      repeat refine Tri.seq ?_
      refine Tri.region mixed ?_
      refine s_move SS ?_
      first | refine s_assignOw ?_ | refine s_val (v_assign SS) ?_
      refine e_seq ?_
      repeat refine Tri.seq ?_
      exact Tri.ret ⟨.inr rfl, ret1 rfl resV_tmp (iv_imp (by simp_all [bindsM]))⟩

/-- Is the variable n bound, where so many are bound inside, and depth outside? -/
def knownM (depth n bound : Int) : Bool := decide (n ≥ 0) && (decide (n < bound) || decide (IntKind.wrap .i64 (n - bound) < depth))
abbrev dpO (depth : Int) : List (Nat × Ob) := [(901, .var 3 (iv .i64 depth))]
theorem known_c (depth n bound : Int) : HCall Tryd.prog G 84 [iv .i64 n, iv .i64 bound, .ptr 901 [] 3] (dpO depth) [] (bv (knownM depth n bound)) [] [] := by
  refine HCall.of_triD tbl 20 [] Tryd.func84 rfl rfl rfl fun w0 M ρ0 D0 => ?_
  repeat refine Tri.seq ?_
  refine Tri.region mixed ?_
  refine s_val (v_assign SS) ?_
  refine e_seq ?_
  repeat refine Tri.seq ?_
  refine Tri.region mixed ?_
  refine s_move SS ?_
  refine s_val (v_int SS) ?_
  refine s_move SS ?_
  refine s_gg (by first | exact Guard.T rfl rfl rfl | exact Guard.F rfl rfl rfl | exact Guard.gT rfl rfl rfl | exact Guard.gF rfl rfl rfl) (v_move SS) ?_
  refine s_gg (by first | exact Guard.T rfl rfl rfl | exact Guard.F rfl rfl rfl | exact Guard.gT rfl rfl rfl | exact Guard.gF rfl rfl rfl) (v_move SS) ?_
  refine s_gg (by first | exact Guard.T rfl rfl rfl | exact Guard.F rfl rfl rfl | exact Guard.gT rfl rfl rfl | exact Guard.gF rfl rfl rfl) (v_int SS) ?_
  refine s_gg (by first | exact Guard.T rfl rfl rfl | exact Guard.F rfl rfl rfl | exact Guard.gT rfl rfl rfl | exact Guard.gF rfl rfl rfl) (v_move SS) ?_
  refine s_gg (by first | exact Guard.T rfl rfl rfl | exact Guard.F rfl rfl rfl | exact Guard.gT rfl rfl rfl | exact Guard.gF rfl rfl rfl) (v_move SS) ?_
  refine s_gg (by first | exact Guard.T rfl rfl rfl | exact Guard.F rfl rfl rfl | exact Guard.gT rfl rfl rfl | exact Guard.gF rfl rfl rfl) (v_move SS) ?_
  refine s_gg (by first | exact Guard.T rfl rfl rfl | exact Guard.F rfl rfl rfl | exact Guard.gT rfl rfl rfl | exact Guard.gF rfl rfl rfl) (v_int SS) ?_
  first | refine s_gg (by first | exact Guard.T rfl rfl rfl | exact Guard.F rfl rfl rfl | exact Guard.gT rfl rfl rfl | exact Guard.gF rfl rfl rfl) (v_load SS) ?_ | refine s_gg (by first | exact Guard.T rfl rfl rfl | exact Guard.F rfl rfl rfl | exact Guard.gT rfl rfl rfl | exact Guard.gF rfl rfl rfl) (v_loadp SS) ?_
  refine s_gg (by first | exact Guard.T rfl rfl rfl | exact Guard.F rfl rfl rfl | exact Guard.gT rfl rfl rfl | exact Guard.gF rfl rfl rfl) (v_int SS) ?_
  refine s_gg (by first | exact Guard.T rfl rfl rfl | exact Guard.F rfl rfl rfl | exact Guard.gT rfl rfl rfl | exact Guard.gF rfl rfl rfl) (v_org SS) ?_
  refine s_val (v_and SS) ?_
  first | refine s_assignOw ?_ | refine s_val (v_assign SS) ?_
  refine e_seq ?_
  repeat refine Tri.seq ?_
  exact Tri.ret ⟨.inr rfl, ret1 rfl resV_tmp (bv_imp (by simp only [knownM])), by repeat (first | exact OutH.nil | refine OutH.cons rfl (by first | exact ObImp.refl _ | exact OWk.imp (by repeat constructor)) ?_)⟩

abbrev chV (members : Int) : PV := .agg 144 [iv .i64 members, .fn (.func 84) [] [.ptr 901 [] 3]]
def termErr (members depth bound k n : Int) (r : List Int) (nk nc : Int) : Int :=
  if offM k 1 12 then 3 else if clashM (hasNumM k) (hasRefM k) (hasCasesM k) n r nc then 7 else if !kidsM k nk || decide (nc > 8) then 2
  else if k == 10 && offM n 1 5 then 3
  else if k == 1 && !knownM depth n bound then 1
  else if k == 7 && (decide (n < 0) || decide (n ≥ members)) then 1
  else if (k == 2 || k == 8 || k == 11) && offM n 0 (if k == 8 || k == 11 then 7 else 1073741824) then 3 else 0
set_option maxHeartbeats 2000000 in
theorem cterm_c' (members depth bound : Int) (k n : Int) (r : List Int) (ks : List Tm) (cs : List Cs) :
    HCall Tryd.prog G 94 [chV members, .pu (tmc 0 (.mk k n r ks cs)), iv .i64 bound] (dpO depth) [] (iv .i64 (termErr members depth bound k n r (tmsc 0 ks).length (cssc 0 cs).length)) [] [] := by
  refine HCall.of_triD tbl 88 [] Tryd.func94 rfl rfl rfl fun w0 M ρ0 D0 => ?_
  repeat refine Tri.seq ?_
  refine Tri.region mixed ?_
  refine s_box SS 3 ?_
  refine s_box SS 4 ?_
  refine s_val (v_assign SS) ?_
  refine e_seqN [3, 4] ?_
  repeat refine Tri.seq ?_
  refine Tri.block ?_
  repeat refine Tri.seq ?_
  refine Tri.region mixed ?_
  first | refine s_val (v_field SS) ?_ | refine s_val (v_fieldp SS) ?_
  first | refine s_val (v_load SS) ?_ | refine s_val (v_loadp SS) ?_
  refine s_val (v_callD (fun _ => off_c k 1 12)) ?_
  first | refine s_assignOw ?_ | refine s_val (v_assign SS) ?_
  refine e_seq ?_
  repeat refine Tri.seq ?_
  refine Tri.cond rfl (fun h0 => ?_) (fun h0 => ?_)
  · skip
    repeat refine Tri.seq ?_
    refine Tri.region mixed ?_
    refine s_val (v_assign SS) ?_
    refine e_seq ?_
    repeat refine Tri.seq ?_
    exact Tri.ret ⟨.inr rfl, ret1 rfl resV_tmp (iv_imp (by first | (simp only [termErr, *, Bool.false_eq_true, Bool.true_and, Bool.false_and, Bool.or_false, Bool.or_true, Bool.true_or, Bool.false_or, if_false, if_true]; done) | (exfalso; simp_all; done) | (unfold termErr; (repeat' split) <;> simp_all <;> omega))), by repeat (first | exact OutH.nil | refine OutH.cons rfl (by first | exact ObImp.refl _ | exact OWk.imp (by repeat constructor)) ?_)⟩
  · skip
    repeat refine Tri.seq ?_
    refine Tri.region mixed ?_
    first | refine s_val (v_field SS) ?_ | refine s_val (v_fieldp SS) ?_
    first | refine s_val (v_load SS) ?_ | refine s_val (v_loadp SS) ?_
    refine s_val (v_callD (fun _ => fields_c k)) ?_
    first | refine s_val (v_field SS) ?_ | refine s_val (v_fieldp SS) ?_
    first | refine s_val (v_load SS) ?_ | refine s_val (v_loadp SS) ?_
    first | refine s_val (v_field SS) ?_ | refine s_val (v_fieldp SS) ?_
    first | refine s_val (v_load SS) ?_ | refine s_val (v_loadp SS) ?_
    first | refine s_val (v_field SS) ?_ | refine s_val (v_fieldp SS) ?_
    first | refine s_load SS ?_ | refine s_val (v_loadp SS) ?_
    first | refine s_val (v_len SS) ?_ | refine s_val (v_lenx SS) ?_ | refine s_val (v_len0 SS) ?_ | refine s_val (v_lena SS) ?_
    refine s_val (v_callD (fun _ => clash_c (hasNumM k) (hasRefM k) (hasCasesM k) n r ((cssc 0 cs).length : Int))) ?_
    first | refine s_assignOw ?_ | refine s_val (v_assign SS) ?_
    refine e_draw ?_
    repeat refine Tri.seq ?_
    refine Tri.cond rfl (fun h1 => ?_) (fun h1 => ?_)
    · skip
      repeat refine Tri.seq ?_
      refine Tri.region mixed ?_
      refine s_val (v_assign SS) ?_
      refine e_seq ?_
      repeat refine Tri.seq ?_
      exact Tri.ret ⟨.inr rfl, ret1 rfl resV_tmp (iv_imp (by first | (simp only [termErr, *, Bool.false_eq_true, Bool.true_and, Bool.false_and, Bool.or_false, Bool.or_true, Bool.true_or, Bool.false_or, if_false, if_true]; done) | (exfalso; simp_all; done) | (unfold termErr; (repeat' split) <;> simp_all <;> omega))), by repeat (first | exact OutH.nil | refine OutH.cons rfl (by first | exact ObImp.refl _ | exact OWk.imp (by repeat constructor)) ?_)⟩
    · skip
      repeat refine Tri.seq ?_
      refine Tri.region mixed ?_
      first | refine s_val (v_field SS) ?_ | refine s_val (v_fieldp SS) ?_
      first | refine s_val (v_load SS) ?_ | refine s_val (v_loadp SS) ?_
      first | refine s_val (v_field SS) ?_ | refine s_val (v_fieldp SS) ?_
      first | refine s_load SS ?_ | refine s_val (v_loadp SS) ?_
      first | refine s_val (v_len SS) ?_ | refine s_val (v_lenx SS) ?_ | refine s_val (v_len0 SS) ?_ | refine s_val (v_lena SS) ?_
      refine s_val (v_callD (fun _ => kids_c k ((tmsc 0 ks).length : Int))) ?_
      refine s_val (v_not SS) ?_
      refine s_move SS ?_
      first | refine s_gg (by first | exact Guard.T rfl rfl rfl | exact Guard.F rfl rfl rfl | exact Guard.gT rfl rfl rfl | exact Guard.gF rfl rfl rfl) (v_field SS) ?_ | refine s_gg (by first | exact Guard.T rfl rfl rfl | exact Guard.F rfl rfl rfl | exact Guard.gT rfl rfl rfl | exact Guard.gF rfl rfl rfl) (v_fieldp SS) ?_
      first | refine s_gg (by first | exact Guard.T rfl rfl rfl | exact Guard.F rfl rfl rfl | exact Guard.gT rfl rfl rfl | exact Guard.gF rfl rfl rfl) (v_load SS) ?_ | refine s_gg (by first | exact Guard.T rfl rfl rfl | exact Guard.F rfl rfl rfl | exact Guard.gT rfl rfl rfl | exact Guard.gF rfl rfl rfl) (v_loadp SS) ?_
      first | refine s_gg (by first | exact Guard.T rfl rfl rfl | exact Guard.F rfl rfl rfl | exact Guard.gT rfl rfl rfl | exact Guard.gF rfl rfl rfl) (v_len SS) ?_ | refine s_gg (by first | exact Guard.T rfl rfl rfl | exact Guard.F rfl rfl rfl | exact Guard.gT rfl rfl rfl | exact Guard.gF rfl rfl rfl) (v_lenx SS) ?_ | refine s_gg (by first | exact Guard.T rfl rfl rfl | exact Guard.F rfl rfl rfl | exact Guard.gT rfl rfl rfl | exact Guard.gF rfl rfl rfl) (v_len0 SS) ?_ | refine s_gg (by first | exact Guard.T rfl rfl rfl | exact Guard.F rfl rfl rfl | exact Guard.gT rfl rfl rfl | exact Guard.gF rfl rfl rfl) (v_lena SS) ?_
      refine s_gg (by first | exact Guard.T rfl rfl rfl | exact Guard.F rfl rfl rfl | exact Guard.gT rfl rfl rfl | exact Guard.gF rfl rfl rfl) (v_int SS) ?_
      refine s_val (v_or SS) ?_
      first | refine s_assignOw ?_ | refine s_val (v_assign SS) ?_
      refine e_seq ?_
      repeat refine Tri.seq ?_
      refine Tri.cond rfl (fun h2 => ?_) (fun h2 => ?_)
      · skip
        repeat refine Tri.seq ?_
        refine Tri.region mixed ?_
        refine s_val (v_assign SS) ?_
        refine e_seq ?_
        repeat refine Tri.seq ?_
        exact Tri.ret ⟨.inr rfl, ret1 rfl resV_tmp (iv_imp (by first | (simp only [termErr, *, Bool.false_eq_true, Bool.true_and, Bool.false_and, Bool.or_false, Bool.or_true, Bool.true_or, Bool.false_or, if_false, if_true]; done) | (exfalso; simp_all; done) | (unfold termErr; (repeat' split) <;> simp_all <;> omega))), by repeat (first | exact OutH.nil | refine OutH.cons rfl (by first | exact ObImp.refl _ | exact OWk.imp (by repeat constructor)) ?_)⟩
      · skip
        refine Tri.skip ?_
        repeat refine Tri.seq ?_
        refine Tri.region mixed ?_
        refine s_val (v_assign SS) ?_
        refine e_seq ?_
        repeat refine Tri.seq ?_
        refine Tri.region mixed ?_
        first | refine s_val (v_field SS) ?_ | refine s_val (v_fieldp SS) ?_
        first | refine s_val (v_load SS) ?_ | refine s_val (v_loadp SS) ?_
        refine e_seq ?_
        repeat refine Tri.seq ?_
        refine Tri.block ?_
        repeat refine Tri.seq ?_
        refine Tri.region mixed ?_
        refine s_val (v_int SS) ?_
        first | refine s_assignOw ?_ | refine s_val (v_assign SS) ?_
        refine e_seq ?_
        repeat refine Tri.seq ?_
        refine Tri.cond rfl (fun h3 => ?_) (fun h3 => ?_)
        · skip
          repeat refine Tri.seq ?_
          refine Tri.region mixed ?_
          first | refine s_val (v_field SS) ?_ | refine s_val (v_fieldp SS) ?_
          first | refine s_val (v_load SS) ?_ | refine s_val (v_loadp SS) ?_
          refine s_val (v_callD (fun _ => off_c n 1 5)) ?_
          refine e_seq ?_
          repeat refine Tri.seq ?_
          refine Tri.cond rfl (fun h4 => ?_) (fun h4 => ?_)
          · skip
            repeat refine Tri.seq ?_
            refine Tri.region mixed ?_
            refine s_val (v_assign SS) ?_
            refine e_seq ?_
            repeat refine Tri.seq ?_
            exact Tri.ret ⟨.inr rfl, ret1 rfl resV_tmp (iv_imp (by first | (simp only [termErr, *, Bool.false_eq_true, Bool.true_and, Bool.false_and, Bool.or_false, Bool.or_true, Bool.true_or, Bool.false_or, if_false, if_true]; done) | (exfalso; simp_all; done) | (unfold termErr; (repeat' split) <;> simp_all <;> omega))), by repeat (first | exact OutH.nil | refine OutH.cons rfl (by first | exact ObImp.refl _ | exact OWk.imp (by repeat constructor)) ?_)⟩
          · skip
            refine Tri.skip ?_
            repeat refine Tri.seq ?_
            refine Tri.region mixed ?_
            first | refine s_val (v_field SS) ?_ | refine s_val (v_fieldp SS) ?_
            first | refine s_val (v_load SS) ?_ | refine s_val (v_loadp SS) ?_
            refine s_val (v_int SS) ?_
            refine s_move SS ?_
            first | refine s_gg (by first | exact Guard.T rfl rfl rfl | exact Guard.F rfl rfl rfl | exact Guard.gT rfl rfl rfl | exact Guard.gF rfl rfl rfl) (v_field SS) ?_ | refine s_gg (by first | exact Guard.T rfl rfl rfl | exact Guard.F rfl rfl rfl | exact Guard.gT rfl rfl rfl | exact Guard.gF rfl rfl rfl) (v_fieldp SS) ?_
            first | refine s_gg (by first | exact Guard.T rfl rfl rfl | exact Guard.F rfl rfl rfl | exact Guard.gT rfl rfl rfl | exact Guard.gF rfl rfl rfl) (v_load SS) ?_ | refine s_gg (by first | exact Guard.T rfl rfl rfl | exact Guard.F rfl rfl rfl | exact Guard.gT rfl rfl rfl | exact Guard.gF rfl rfl rfl) (v_loadp SS) ?_
            refine s_gg (by first | exact Guard.T rfl rfl rfl | exact Guard.F rfl rfl rfl | exact Guard.gT rfl rfl rfl | exact Guard.gF rfl rfl rfl) (v_int SS) ?_
            refine s_val (v_or SS) ?_
            refine s_move SS ?_
            first | refine s_gg (by first | exact Guard.T rfl rfl rfl | exact Guard.F rfl rfl rfl | exact Guard.gT rfl rfl rfl | exact Guard.gF rfl rfl rfl) (v_field SS) ?_ | refine s_gg (by first | exact Guard.T rfl rfl rfl | exact Guard.F rfl rfl rfl | exact Guard.gT rfl rfl rfl | exact Guard.gF rfl rfl rfl) (v_fieldp SS) ?_
            first | refine s_gg (by first | exact Guard.T rfl rfl rfl | exact Guard.F rfl rfl rfl | exact Guard.gT rfl rfl rfl | exact Guard.gF rfl rfl rfl) (v_load SS) ?_ | refine s_gg (by first | exact Guard.T rfl rfl rfl | exact Guard.F rfl rfl rfl | exact Guard.gT rfl rfl rfl | exact Guard.gF rfl rfl rfl) (v_loadp SS) ?_
            refine s_gg (by first | exact Guard.T rfl rfl rfl | exact Guard.F rfl rfl rfl | exact Guard.gT rfl rfl rfl | exact Guard.gF rfl rfl rfl) (v_int SS) ?_
            refine s_val (v_or SS) ?_
            refine s_move SS ?_
            first | refine s_gg (by first | exact Guard.T rfl rfl rfl | exact Guard.F rfl rfl rfl | exact Guard.gT rfl rfl rfl | exact Guard.gF rfl rfl rfl) (v_field SS) ?_ | refine s_gg (by first | exact Guard.T rfl rfl rfl | exact Guard.F rfl rfl rfl | exact Guard.gT rfl rfl rfl | exact Guard.gF rfl rfl rfl) (v_fieldp SS) ?_
            first | refine s_gg (by first | exact Guard.T rfl rfl rfl | exact Guard.F rfl rfl rfl | exact Guard.gT rfl rfl rfl | exact Guard.gF rfl rfl rfl) (v_load SS) ?_ | refine s_gg (by first | exact Guard.T rfl rfl rfl | exact Guard.F rfl rfl rfl | exact Guard.gT rfl rfl rfl | exact Guard.gF rfl rfl rfl) (v_loadp SS) ?_
            refine s_gg (by first | exact Guard.T rfl rfl rfl | exact Guard.F rfl rfl rfl | exact Guard.gT rfl rfl rfl | exact Guard.gF rfl rfl rfl) (v_move SS) ?_
            refine s_gg (by first | exact Guard.T rfl rfl rfl | exact Guard.F rfl rfl rfl | exact Guard.gT rfl rfl rfl | exact Guard.gF rfl rfl rfl) (v_callD (fun _ => off_c n 0 _)) ?_
            refine s_val (v_and SS) ?_
            refine e_seq ?_
            repeat refine Tri.seq ?_
            refine Tri.cond rfl (fun h11 => ?_) (fun h11 => ?_)
            · skip
              repeat refine Tri.seq ?_
              refine Tri.region mixed ?_
              refine s_val (v_assign SS) ?_
              refine e_seq ?_
              repeat refine Tri.seq ?_
              exact Tri.ret ⟨.inr rfl, ret1 rfl resV_tmp (iv_imp (by first | (simp only [termErr, *, Bool.false_eq_true, Bool.true_and, Bool.false_and, Bool.or_false, Bool.or_true, Bool.true_or, Bool.false_or, if_false, if_true]; done) | (exfalso; simp_all; done) | (unfold termErr; (repeat' split) <;> simp_all <;> omega))), by repeat (first | exact OutH.nil | refine OutH.cons rfl (by first | exact ObImp.refl _ | exact OWk.imp (by repeat constructor)) ?_)⟩
            · skip
              refine Tri.skip ?_
              repeat refine Tri.seq ?_
              refine Tri.region mixed ?_
              refine s_val (v_assign SS) ?_
              refine e_seq ?_
              repeat refine Tri.seq ?_
              exact Tri.ret ⟨.inr rfl, ret1 rfl resV_tmp (iv_imp (by first | (simp only [termErr, *, Bool.false_eq_true, Bool.true_and, Bool.false_and, Bool.or_false, Bool.or_true, Bool.true_or, Bool.false_or, if_false, if_true]; done) | (exfalso; simp_all; done) | (unfold termErr; (repeat' split) <;> simp_all <;> omega))), by repeat (first | exact OutH.nil | refine OutH.cons rfl (by first | exact ObImp.refl _ | exact OWk.imp (by repeat constructor)) ?_)⟩
        · skip
          repeat refine Tri.seq ?_
          refine Tri.region mixed ?_
          refine s_val (v_int SS) ?_
          first | refine s_assignOw ?_ | refine s_val (v_assign SS) ?_
          refine e_seq ?_
          repeat refine Tri.seq ?_
          refine Tri.cond rfl (fun h5 => ?_) (fun h5 => ?_)
          · skip
            refine Tri.skip ?_
            repeat refine Tri.seq ?_
            refine Tri.cond rfl (fun h6 => ?_) (fun h6 => ?_)
            · skip
              repeat refine Tri.seq ?_
              refine Tri.region mixed ?_
              refine s_val (v_assign SS) ?_
              refine e_seq ?_
              repeat refine Tri.seq ?_
              refine Tri.region mixed ?_
              first | refine s_val (v_field SS) ?_ | refine s_val (v_fieldp SS) ?_
              first | refine s_val (v_load SS) ?_ | refine s_val (v_loadp SS) ?_
              refine s_val (v_int SS) ?_
              refine s_move SS ?_
              first | refine s_gg (by first | exact Guard.T rfl rfl rfl | exact Guard.F rfl rfl rfl | exact Guard.gT rfl rfl rfl | exact Guard.gF rfl rfl rfl) (v_field SS) ?_ | refine s_gg (by first | exact Guard.T rfl rfl rfl | exact Guard.F rfl rfl rfl | exact Guard.gT rfl rfl rfl | exact Guard.gF rfl rfl rfl) (v_fieldp SS) ?_
              first | refine s_gg (by first | exact Guard.T rfl rfl rfl | exact Guard.F rfl rfl rfl | exact Guard.gT rfl rfl rfl | exact Guard.gF rfl rfl rfl) (v_load SS) ?_ | refine s_gg (by first | exact Guard.T rfl rfl rfl | exact Guard.F rfl rfl rfl | exact Guard.gT rfl rfl rfl | exact Guard.gF rfl rfl rfl) (v_loadp SS) ?_
              refine s_gg (by first | exact Guard.T rfl rfl rfl | exact Guard.F rfl rfl rfl | exact Guard.gT rfl rfl rfl | exact Guard.gF rfl rfl rfl) (v_int SS) ?_
              refine s_val (v_or SS) ?_
              refine s_move SS ?_
              first | refine s_gg (by first | exact Guard.T rfl rfl rfl | exact Guard.F rfl rfl rfl | exact Guard.gT rfl rfl rfl | exact Guard.gF rfl rfl rfl) (v_field SS) ?_ | refine s_gg (by first | exact Guard.T rfl rfl rfl | exact Guard.F rfl rfl rfl | exact Guard.gT rfl rfl rfl | exact Guard.gF rfl rfl rfl) (v_fieldp SS) ?_
              first | refine s_gg (by first | exact Guard.T rfl rfl rfl | exact Guard.F rfl rfl rfl | exact Guard.gT rfl rfl rfl | exact Guard.gF rfl rfl rfl) (v_load SS) ?_ | refine s_gg (by first | exact Guard.T rfl rfl rfl | exact Guard.F rfl rfl rfl | exact Guard.gT rfl rfl rfl | exact Guard.gF rfl rfl rfl) (v_loadp SS) ?_
              refine s_gg (by first | exact Guard.T rfl rfl rfl | exact Guard.F rfl rfl rfl | exact Guard.gT rfl rfl rfl | exact Guard.gF rfl rfl rfl) (v_int SS) ?_
              refine s_val (v_or SS) ?_
              refine s_move SS ?_
              first | refine s_gg (by first | exact Guard.T rfl rfl rfl | exact Guard.F rfl rfl rfl | exact Guard.gT rfl rfl rfl | exact Guard.gF rfl rfl rfl) (v_field SS) ?_ | refine s_gg (by first | exact Guard.T rfl rfl rfl | exact Guard.F rfl rfl rfl | exact Guard.gT rfl rfl rfl | exact Guard.gF rfl rfl rfl) (v_fieldp SS) ?_
              first | refine s_gg (by first | exact Guard.T rfl rfl rfl | exact Guard.F rfl rfl rfl | exact Guard.gT rfl rfl rfl | exact Guard.gF rfl rfl rfl) (v_load SS) ?_ | refine s_gg (by first | exact Guard.T rfl rfl rfl | exact Guard.F rfl rfl rfl | exact Guard.gT rfl rfl rfl | exact Guard.gF rfl rfl rfl) (v_loadp SS) ?_
              refine s_gg (by first | exact Guard.T rfl rfl rfl | exact Guard.F rfl rfl rfl | exact Guard.gT rfl rfl rfl | exact Guard.gF rfl rfl rfl) (v_move SS) ?_
              refine s_gg (by first | exact Guard.T rfl rfl rfl | exact Guard.F rfl rfl rfl | exact Guard.gT rfl rfl rfl | exact Guard.gF rfl rfl rfl) (v_callD (fun _ => off_c n 0 _)) ?_
              refine s_val (v_and SS) ?_
              refine e_seq ?_
              repeat refine Tri.seq ?_
              refine Tri.cond rfl (fun h11 => ?_) (fun h11 => ?_)
              · skip
                repeat refine Tri.seq ?_
                refine Tri.region mixed ?_
                refine s_val (v_assign SS) ?_
                refine e_seq ?_
                repeat refine Tri.seq ?_
                exact Tri.ret ⟨.inr rfl, ret1 rfl resV_tmp (iv_imp (by first | (simp only [termErr, *, Bool.false_eq_true, Bool.true_and, Bool.false_and, Bool.or_false, Bool.or_true, Bool.true_or, Bool.false_or, if_false, if_true]; done) | (exfalso; simp_all; done) | (unfold termErr; (repeat' split) <;> simp_all <;> omega))), by repeat (first | exact OutH.nil | refine OutH.cons rfl (by first | exact ObImp.refl _ | exact OWk.imp (by repeat constructor)) ?_)⟩
              · skip
                refine Tri.skip ?_
                repeat refine Tri.seq ?_
                refine Tri.region mixed ?_
                refine s_val (v_assign SS) ?_
                refine e_seq ?_
                repeat refine Tri.seq ?_
                exact Tri.ret ⟨.inr rfl, ret1 rfl resV_tmp (iv_imp (by first | (simp only [termErr, *, Bool.false_eq_true, Bool.true_and, Bool.false_and, Bool.or_false, Bool.or_true, Bool.true_or, Bool.false_or, if_false, if_true]; done) | (exfalso; simp_all; done) | (unfold termErr; (repeat' split) <;> simp_all <;> omega))), by repeat (first | exact OutH.nil | refine OutH.cons rfl (by first | exact ObImp.refl _ | exact OWk.imp (by repeat constructor)) ?_)⟩
            · skip
              repeat refine Tri.seq ?_
              refine Tri.region mixed ?_
              refine s_val (v_int SS) ?_
              first | refine s_assignOw ?_ | refine s_val (v_assign SS) ?_
              refine e_seq ?_
              repeat refine Tri.seq ?_
              refine Tri.cond rfl (fun h7 => ?_) (fun h7 => ?_)
              · skip
                repeat refine Tri.seq ?_
                refine Tri.region mixed ?_
                first | refine s_val (v_field SS) ?_ | refine s_val (v_fieldp SS) ?_
                first | refine s_val (v_load SS) ?_ | refine s_val (v_loadp SS) ?_
                first | refine s_val (v_field SS) ?_ | refine s_val (v_fieldp SS) ?_
                first | refine s_val (v_load SS) ?_ | refine s_val (v_loadp SS) ?_
                refine s_move SS ?_
                refine s_val (v_callO (fun _ => known_c depth n bound)) ?_
                refine s_val (v_not SS) ?_
                refine e_seq ?_
                repeat refine Tri.seq ?_
                refine Tri.cond rfl (fun h8 => ?_) (fun h8 => ?_)
                · skip
                  repeat refine Tri.seq ?_
                  refine Tri.region mixed ?_
                  refine s_val (v_assign SS) ?_
                  refine e_seq ?_
                  repeat refine Tri.seq ?_
                  exact Tri.ret ⟨.inr rfl, ret1 rfl resV_tmp (iv_imp (by first | (simp only [termErr, *, Bool.false_eq_true, Bool.true_and, Bool.false_and, Bool.or_false, Bool.or_true, Bool.true_or, Bool.false_or, if_false, if_true]; done) | (exfalso; simp_all; done) | (unfold termErr; (repeat' split) <;> simp_all <;> omega))), by repeat (first | exact OutH.nil | refine OutH.cons rfl (by first | exact ObImp.refl _ | exact OWk.imp (by repeat constructor)) ?_)⟩
                · skip
                  refine Tri.skip ?_
                  repeat refine Tri.seq ?_
                  refine Tri.region mixed ?_
                  first | refine s_val (v_field SS) ?_ | refine s_val (v_fieldp SS) ?_
                  first | refine s_val (v_load SS) ?_ | refine s_val (v_loadp SS) ?_
                  refine s_val (v_int SS) ?_
                  refine s_move SS ?_
                  first | refine s_gg (by first | exact Guard.T rfl rfl rfl | exact Guard.F rfl rfl rfl | exact Guard.gT rfl rfl rfl | exact Guard.gF rfl rfl rfl) (v_field SS) ?_ | refine s_gg (by first | exact Guard.T rfl rfl rfl | exact Guard.F rfl rfl rfl | exact Guard.gT rfl rfl rfl | exact Guard.gF rfl rfl rfl) (v_fieldp SS) ?_
                  first | refine s_gg (by first | exact Guard.T rfl rfl rfl | exact Guard.F rfl rfl rfl | exact Guard.gT rfl rfl rfl | exact Guard.gF rfl rfl rfl) (v_load SS) ?_ | refine s_gg (by first | exact Guard.T rfl rfl rfl | exact Guard.F rfl rfl rfl | exact Guard.gT rfl rfl rfl | exact Guard.gF rfl rfl rfl) (v_loadp SS) ?_
                  refine s_gg (by first | exact Guard.T rfl rfl rfl | exact Guard.F rfl rfl rfl | exact Guard.gT rfl rfl rfl | exact Guard.gF rfl rfl rfl) (v_int SS) ?_
                  refine s_val (v_or SS) ?_
                  refine s_move SS ?_
                  first | refine s_gg (by first | exact Guard.T rfl rfl rfl | exact Guard.F rfl rfl rfl | exact Guard.gT rfl rfl rfl | exact Guard.gF rfl rfl rfl) (v_field SS) ?_ | refine s_gg (by first | exact Guard.T rfl rfl rfl | exact Guard.F rfl rfl rfl | exact Guard.gT rfl rfl rfl | exact Guard.gF rfl rfl rfl) (v_fieldp SS) ?_
                  first | refine s_gg (by first | exact Guard.T rfl rfl rfl | exact Guard.F rfl rfl rfl | exact Guard.gT rfl rfl rfl | exact Guard.gF rfl rfl rfl) (v_load SS) ?_ | refine s_gg (by first | exact Guard.T rfl rfl rfl | exact Guard.F rfl rfl rfl | exact Guard.gT rfl rfl rfl | exact Guard.gF rfl rfl rfl) (v_loadp SS) ?_
                  refine s_gg (by first | exact Guard.T rfl rfl rfl | exact Guard.F rfl rfl rfl | exact Guard.gT rfl rfl rfl | exact Guard.gF rfl rfl rfl) (v_int SS) ?_
                  refine s_val (v_or SS) ?_
                  refine s_move SS ?_
                  first | refine s_gg (by first | exact Guard.T rfl rfl rfl | exact Guard.F rfl rfl rfl | exact Guard.gT rfl rfl rfl | exact Guard.gF rfl rfl rfl) (v_field SS) ?_ | refine s_gg (by first | exact Guard.T rfl rfl rfl | exact Guard.F rfl rfl rfl | exact Guard.gT rfl rfl rfl | exact Guard.gF rfl rfl rfl) (v_fieldp SS) ?_
                  first | refine s_gg (by first | exact Guard.T rfl rfl rfl | exact Guard.F rfl rfl rfl | exact Guard.gT rfl rfl rfl | exact Guard.gF rfl rfl rfl) (v_load SS) ?_ | refine s_gg (by first | exact Guard.T rfl rfl rfl | exact Guard.F rfl rfl rfl | exact Guard.gT rfl rfl rfl | exact Guard.gF rfl rfl rfl) (v_loadp SS) ?_
                  refine s_gg (by first | exact Guard.T rfl rfl rfl | exact Guard.F rfl rfl rfl | exact Guard.gT rfl rfl rfl | exact Guard.gF rfl rfl rfl) (v_move SS) ?_
                  refine s_gg (by first | exact Guard.T rfl rfl rfl | exact Guard.F rfl rfl rfl | exact Guard.gT rfl rfl rfl | exact Guard.gF rfl rfl rfl) (v_callD (fun _ => off_c n 0 _)) ?_
                  refine s_val (v_and SS) ?_
                  refine e_seq ?_
                  repeat refine Tri.seq ?_
                  refine Tri.cond rfl (fun h11 => ?_) (fun h11 => ?_)
                  · skip
                    repeat refine Tri.seq ?_
                    refine Tri.region mixed ?_
                    refine s_val (v_assign SS) ?_
                    refine e_seq ?_
                    repeat refine Tri.seq ?_
                    exact Tri.ret ⟨.inr rfl, ret1 rfl resV_tmp (iv_imp (by first | (simp only [termErr, *, Bool.false_eq_true, Bool.true_and, Bool.false_and, Bool.or_false, Bool.or_true, Bool.true_or, Bool.false_or, if_false, if_true]; done) | (exfalso; simp_all; done) | (unfold termErr; (repeat' split) <;> simp_all <;> omega))), by repeat (first | exact OutH.nil | refine OutH.cons rfl (by first | exact ObImp.refl _ | exact OWk.imp (by repeat constructor)) ?_)⟩
                  · skip
                    refine Tri.skip ?_
                    repeat refine Tri.seq ?_
                    refine Tri.region mixed ?_
                    refine s_val (v_assign SS) ?_
                    refine e_seq ?_
                    repeat refine Tri.seq ?_
                    exact Tri.ret ⟨.inr rfl, ret1 rfl resV_tmp (iv_imp (by first | (simp only [termErr, *, Bool.false_eq_true, Bool.true_and, Bool.false_and, Bool.or_false, Bool.or_true, Bool.true_or, Bool.false_or, if_false, if_true]; done) | (exfalso; simp_all; done) | (unfold termErr; (repeat' split) <;> simp_all <;> omega))), by repeat (first | exact OutH.nil | refine OutH.cons rfl (by first | exact ObImp.refl _ | exact OWk.imp (by repeat constructor)) ?_)⟩
              · skip
                repeat refine Tri.seq ?_
                refine Tri.region mixed ?_
                refine s_val (v_int SS) ?_
                first | refine s_assignOw ?_ | refine s_val (v_assign SS) ?_
                refine e_seq ?_
                repeat refine Tri.seq ?_
                refine Tri.cond rfl (fun h9 => ?_) (fun h9 => ?_)
                · skip
                  repeat refine Tri.seq ?_
                  refine Tri.region mixed ?_
                  first | refine s_val (v_field SS) ?_ | refine s_val (v_fieldp SS) ?_
                  first | refine s_val (v_load SS) ?_ | refine s_val (v_loadp SS) ?_
                  refine s_val (v_int SS) ?_
                  refine s_move SS ?_
                  first | refine s_gg (by first | exact Guard.T rfl rfl rfl | exact Guard.F rfl rfl rfl | exact Guard.gT rfl rfl rfl | exact Guard.gF rfl rfl rfl) (v_field SS) ?_ | refine s_gg (by first | exact Guard.T rfl rfl rfl | exact Guard.F rfl rfl rfl | exact Guard.gT rfl rfl rfl | exact Guard.gF rfl rfl rfl) (v_fieldp SS) ?_
                  first | refine s_gg (by first | exact Guard.T rfl rfl rfl | exact Guard.F rfl rfl rfl | exact Guard.gT rfl rfl rfl | exact Guard.gF rfl rfl rfl) (v_load SS) ?_ | refine s_gg (by first | exact Guard.T rfl rfl rfl | exact Guard.F rfl rfl rfl | exact Guard.gT rfl rfl rfl | exact Guard.gF rfl rfl rfl) (v_loadp SS) ?_
                  first | refine s_gg (by first | exact Guard.T rfl rfl rfl | exact Guard.F rfl rfl rfl | exact Guard.gT rfl rfl rfl | exact Guard.gF rfl rfl rfl) (v_field SS) ?_ | refine s_gg (by first | exact Guard.T rfl rfl rfl | exact Guard.F rfl rfl rfl | exact Guard.gT rfl rfl rfl | exact Guard.gF rfl rfl rfl) (v_fieldp SS) ?_
                  first | refine s_gg (by first | exact Guard.T rfl rfl rfl | exact Guard.F rfl rfl rfl | exact Guard.gT rfl rfl rfl | exact Guard.gF rfl rfl rfl) (v_load SS) ?_ | refine s_gg (by first | exact Guard.T rfl rfl rfl | exact Guard.F rfl rfl rfl | exact Guard.gT rfl rfl rfl | exact Guard.gF rfl rfl rfl) (v_loadp SS) ?_
                  refine s_gg (by first | exact Guard.T rfl rfl rfl | exact Guard.F rfl rfl rfl | exact Guard.gT rfl rfl rfl | exact Guard.gF rfl rfl rfl) (v_int SS) ?_
                  refine s_val (v_or SS) ?_
                  refine e_seq ?_
                  repeat refine Tri.seq ?_
                  refine Tri.cond rfl (fun h10 => ?_) (fun h10 => ?_)
                  · skip
                    repeat refine Tri.seq ?_
                    refine Tri.region mixed ?_
                    refine s_val (v_assign SS) ?_
                    refine e_seq ?_
                    repeat refine Tri.seq ?_
                    exact Tri.ret ⟨.inr rfl, ret1 rfl resV_tmp (iv_imp (by first | (simp only [termErr, *, Bool.false_eq_true, Bool.true_and, Bool.false_and, Bool.or_false, Bool.or_true, Bool.true_or, Bool.false_or, if_false, if_true]; done) | (exfalso; simp_all; done) | (unfold termErr; (repeat' split) <;> simp_all <;> omega))), by repeat (first | exact OutH.nil | refine OutH.cons rfl (by first | exact ObImp.refl _ | exact OWk.imp (by repeat constructor)) ?_)⟩
                  · skip
                    refine Tri.skip ?_
                    repeat refine Tri.seq ?_
                    refine Tri.region mixed ?_
                    first | refine s_val (v_field SS) ?_ | refine s_val (v_fieldp SS) ?_
                    first | refine s_val (v_load SS) ?_ | refine s_val (v_loadp SS) ?_
                    refine s_val (v_int SS) ?_
                    refine s_move SS ?_
                    first | refine s_gg (by first | exact Guard.T rfl rfl rfl | exact Guard.F rfl rfl rfl | exact Guard.gT rfl rfl rfl | exact Guard.gF rfl rfl rfl) (v_field SS) ?_ | refine s_gg (by first | exact Guard.T rfl rfl rfl | exact Guard.F rfl rfl rfl | exact Guard.gT rfl rfl rfl | exact Guard.gF rfl rfl rfl) (v_fieldp SS) ?_
                    first | refine s_gg (by first | exact Guard.T rfl rfl rfl | exact Guard.F rfl rfl rfl | exact Guard.gT rfl rfl rfl | exact Guard.gF rfl rfl rfl) (v_load SS) ?_ | refine s_gg (by first | exact Guard.T rfl rfl rfl | exact Guard.F rfl rfl rfl | exact Guard.gT rfl rfl rfl | exact Guard.gF rfl rfl rfl) (v_loadp SS) ?_
                    refine s_gg (by first | exact Guard.T rfl rfl rfl | exact Guard.F rfl rfl rfl | exact Guard.gT rfl rfl rfl | exact Guard.gF rfl rfl rfl) (v_int SS) ?_
                    refine s_val (v_or SS) ?_
                    refine s_move SS ?_
                    first | refine s_gg (by first | exact Guard.T rfl rfl rfl | exact Guard.F rfl rfl rfl | exact Guard.gT rfl rfl rfl | exact Guard.gF rfl rfl rfl) (v_field SS) ?_ | refine s_gg (by first | exact Guard.T rfl rfl rfl | exact Guard.F rfl rfl rfl | exact Guard.gT rfl rfl rfl | exact Guard.gF rfl rfl rfl) (v_fieldp SS) ?_
                    first | refine s_gg (by first | exact Guard.T rfl rfl rfl | exact Guard.F rfl rfl rfl | exact Guard.gT rfl rfl rfl | exact Guard.gF rfl rfl rfl) (v_load SS) ?_ | refine s_gg (by first | exact Guard.T rfl rfl rfl | exact Guard.F rfl rfl rfl | exact Guard.gT rfl rfl rfl | exact Guard.gF rfl rfl rfl) (v_loadp SS) ?_
                    refine s_gg (by first | exact Guard.T rfl rfl rfl | exact Guard.F rfl rfl rfl | exact Guard.gT rfl rfl rfl | exact Guard.gF rfl rfl rfl) (v_int SS) ?_
                    refine s_val (v_or SS) ?_
                    refine s_move SS ?_
                    first | refine s_gg (by first | exact Guard.T rfl rfl rfl | exact Guard.F rfl rfl rfl | exact Guard.gT rfl rfl rfl | exact Guard.gF rfl rfl rfl) (v_field SS) ?_ | refine s_gg (by first | exact Guard.T rfl rfl rfl | exact Guard.F rfl rfl rfl | exact Guard.gT rfl rfl rfl | exact Guard.gF rfl rfl rfl) (v_fieldp SS) ?_
                    first | refine s_gg (by first | exact Guard.T rfl rfl rfl | exact Guard.F rfl rfl rfl | exact Guard.gT rfl rfl rfl | exact Guard.gF rfl rfl rfl) (v_load SS) ?_ | refine s_gg (by first | exact Guard.T rfl rfl rfl | exact Guard.F rfl rfl rfl | exact Guard.gT rfl rfl rfl | exact Guard.gF rfl rfl rfl) (v_loadp SS) ?_
                    refine s_gg (by first | exact Guard.T rfl rfl rfl | exact Guard.F rfl rfl rfl | exact Guard.gT rfl rfl rfl | exact Guard.gF rfl rfl rfl) (v_move SS) ?_
                    refine s_gg (by first | exact Guard.T rfl rfl rfl | exact Guard.F rfl rfl rfl | exact Guard.gT rfl rfl rfl | exact Guard.gF rfl rfl rfl) (v_callD (fun _ => off_c n 0 _)) ?_
                    refine s_val (v_and SS) ?_
                    refine e_seq ?_
                    repeat refine Tri.seq ?_
                    refine Tri.cond rfl (fun h11 => ?_) (fun h11 => ?_)
                    · skip
                      repeat refine Tri.seq ?_
                      refine Tri.region mixed ?_
                      refine s_val (v_assign SS) ?_
                      refine e_seq ?_
                      repeat refine Tri.seq ?_
                      exact Tri.ret ⟨.inr rfl, ret1 rfl resV_tmp (iv_imp (by first | (simp only [termErr, *, Bool.false_eq_true, Bool.true_and, Bool.false_and, Bool.or_false, Bool.or_true, Bool.true_or, Bool.false_or, if_false, if_true]; done) | (exfalso; simp_all; done) | (unfold termErr; (repeat' split) <;> simp_all <;> omega))), by repeat (first | exact OutH.nil | refine OutH.cons rfl (by first | exact ObImp.refl _ | exact OWk.imp (by repeat constructor)) ?_)⟩
                    · skip
                      refine Tri.skip ?_
                      repeat refine Tri.seq ?_
                      refine Tri.region mixed ?_
                      refine s_val (v_assign SS) ?_
                      refine e_seq ?_
                      repeat refine Tri.seq ?_
                      exact Tri.ret ⟨.inr rfl, ret1 rfl resV_tmp (iv_imp (by first | (simp only [termErr, *, Bool.false_eq_true, Bool.true_and, Bool.false_and, Bool.or_false, Bool.or_true, Bool.true_or, Bool.false_or, if_false, if_true]; done) | (exfalso; simp_all; done) | (unfold termErr; (repeat' split) <;> simp_all <;> omega))), by repeat (first | exact OutH.nil | refine OutH.cons rfl (by first | exact ObImp.refl _ | exact OWk.imp (by repeat constructor)) ?_)⟩
                · skip
                  refine Tri.skip ?_
                  repeat refine Tri.seq ?_
                  refine Tri.region mixed ?_
                  first | refine s_val (v_field SS) ?_ | refine s_val (v_fieldp SS) ?_
                  first | refine s_val (v_load SS) ?_ | refine s_val (v_loadp SS) ?_
                  refine s_val (v_int SS) ?_
                  refine s_move SS ?_
                  first | refine s_gg (by first | exact Guard.T rfl rfl rfl | exact Guard.F rfl rfl rfl | exact Guard.gT rfl rfl rfl | exact Guard.gF rfl rfl rfl) (v_field SS) ?_ | refine s_gg (by first | exact Guard.T rfl rfl rfl | exact Guard.F rfl rfl rfl | exact Guard.gT rfl rfl rfl | exact Guard.gF rfl rfl rfl) (v_fieldp SS) ?_
                  first | refine s_gg (by first | exact Guard.T rfl rfl rfl | exact Guard.F rfl rfl rfl | exact Guard.gT rfl rfl rfl | exact Guard.gF rfl rfl rfl) (v_load SS) ?_ | refine s_gg (by first | exact Guard.T rfl rfl rfl | exact Guard.F rfl rfl rfl | exact Guard.gT rfl rfl rfl | exact Guard.gF rfl rfl rfl) (v_loadp SS) ?_
                  refine s_gg (by first | exact Guard.T rfl rfl rfl | exact Guard.F rfl rfl rfl | exact Guard.gT rfl rfl rfl | exact Guard.gF rfl rfl rfl) (v_int SS) ?_
                  refine s_val (v_or SS) ?_
                  refine s_move SS ?_
                  first | refine s_gg (by first | exact Guard.T rfl rfl rfl | exact Guard.F rfl rfl rfl | exact Guard.gT rfl rfl rfl | exact Guard.gF rfl rfl rfl) (v_field SS) ?_ | refine s_gg (by first | exact Guard.T rfl rfl rfl | exact Guard.F rfl rfl rfl | exact Guard.gT rfl rfl rfl | exact Guard.gF rfl rfl rfl) (v_fieldp SS) ?_
                  first | refine s_gg (by first | exact Guard.T rfl rfl rfl | exact Guard.F rfl rfl rfl | exact Guard.gT rfl rfl rfl | exact Guard.gF rfl rfl rfl) (v_load SS) ?_ | refine s_gg (by first | exact Guard.T rfl rfl rfl | exact Guard.F rfl rfl rfl | exact Guard.gT rfl rfl rfl | exact Guard.gF rfl rfl rfl) (v_loadp SS) ?_
                  refine s_gg (by first | exact Guard.T rfl rfl rfl | exact Guard.F rfl rfl rfl | exact Guard.gT rfl rfl rfl | exact Guard.gF rfl rfl rfl) (v_int SS) ?_
                  refine s_val (v_or SS) ?_
                  refine s_move SS ?_
                  first | refine s_gg (by first | exact Guard.T rfl rfl rfl | exact Guard.F rfl rfl rfl | exact Guard.gT rfl rfl rfl | exact Guard.gF rfl rfl rfl) (v_field SS) ?_ | refine s_gg (by first | exact Guard.T rfl rfl rfl | exact Guard.F rfl rfl rfl | exact Guard.gT rfl rfl rfl | exact Guard.gF rfl rfl rfl) (v_fieldp SS) ?_
                  first | refine s_gg (by first | exact Guard.T rfl rfl rfl | exact Guard.F rfl rfl rfl | exact Guard.gT rfl rfl rfl | exact Guard.gF rfl rfl rfl) (v_load SS) ?_ | refine s_gg (by first | exact Guard.T rfl rfl rfl | exact Guard.F rfl rfl rfl | exact Guard.gT rfl rfl rfl | exact Guard.gF rfl rfl rfl) (v_loadp SS) ?_
                  refine s_gg (by first | exact Guard.T rfl rfl rfl | exact Guard.F rfl rfl rfl | exact Guard.gT rfl rfl rfl | exact Guard.gF rfl rfl rfl) (v_move SS) ?_
                  refine s_gg (by first | exact Guard.T rfl rfl rfl | exact Guard.F rfl rfl rfl | exact Guard.gT rfl rfl rfl | exact Guard.gF rfl rfl rfl) (v_callD (fun _ => off_c n 0 _)) ?_
                  refine s_val (v_and SS) ?_
                  refine e_seq ?_
                  repeat refine Tri.seq ?_
                  refine Tri.cond rfl (fun h11 => ?_) (fun h11 => ?_)
                  · skip
                    repeat refine Tri.seq ?_
                    refine Tri.region mixed ?_
                    refine s_val (v_assign SS) ?_
                    refine e_seq ?_
                    repeat refine Tri.seq ?_
                    exact Tri.ret ⟨.inr rfl, ret1 rfl resV_tmp (iv_imp (by first | (simp only [termErr, *, Bool.false_eq_true, Bool.true_and, Bool.false_and, Bool.or_false, Bool.or_true, Bool.true_or, Bool.false_or, if_false, if_true]; done) | (exfalso; simp_all; done) | (unfold termErr; (repeat' split) <;> simp_all <;> omega))), by repeat (first | exact OutH.nil | refine OutH.cons rfl (by first | exact ObImp.refl _ | exact OWk.imp (by repeat constructor)) ?_)⟩
                  · skip
                    refine Tri.skip ?_
                    repeat refine Tri.seq ?_
                    refine Tri.region mixed ?_
                    refine s_val (v_assign SS) ?_
                    refine e_seq ?_
                    repeat refine Tri.seq ?_
                    exact Tri.ret ⟨.inr rfl, ret1 rfl resV_tmp (iv_imp (by first | (simp only [termErr, *, Bool.false_eq_true, Bool.true_and, Bool.false_and, Bool.or_false, Bool.or_true, Bool.true_or, Bool.false_or, if_false, if_true]; done) | (exfalso; simp_all; done) | (unfold termErr; (repeat' split) <;> simp_all <;> omega))), by repeat (first | exact OutH.nil | refine OutH.cons rfl (by first | exact ObImp.refl _ | exact OWk.imp (by repeat constructor)) ?_)⟩
          · skip
            repeat refine Tri.seq ?_
            refine Tri.region mixed ?_
            refine s_val (v_int SS) ?_
            first | refine s_assignOw ?_ | refine s_val (v_assign SS) ?_
            refine e_seq ?_
            repeat refine Tri.seq ?_
            refine Tri.cond rfl (fun h6 => ?_) (fun h6 => ?_)
            · skip
              repeat refine Tri.seq ?_
              refine Tri.region mixed ?_
              refine s_val (v_assign SS) ?_
              refine e_seq ?_
              repeat refine Tri.seq ?_
              refine Tri.region mixed ?_
              first | refine s_val (v_field SS) ?_ | refine s_val (v_fieldp SS) ?_
              first | refine s_val (v_load SS) ?_ | refine s_val (v_loadp SS) ?_
              refine s_val (v_int SS) ?_
              refine s_move SS ?_
              first | refine s_gg (by first | exact Guard.T rfl rfl rfl | exact Guard.F rfl rfl rfl | exact Guard.gT rfl rfl rfl | exact Guard.gF rfl rfl rfl) (v_field SS) ?_ | refine s_gg (by first | exact Guard.T rfl rfl rfl | exact Guard.F rfl rfl rfl | exact Guard.gT rfl rfl rfl | exact Guard.gF rfl rfl rfl) (v_fieldp SS) ?_
              first | refine s_gg (by first | exact Guard.T rfl rfl rfl | exact Guard.F rfl rfl rfl | exact Guard.gT rfl rfl rfl | exact Guard.gF rfl rfl rfl) (v_load SS) ?_ | refine s_gg (by first | exact Guard.T rfl rfl rfl | exact Guard.F rfl rfl rfl | exact Guard.gT rfl rfl rfl | exact Guard.gF rfl rfl rfl) (v_loadp SS) ?_
              refine s_gg (by first | exact Guard.T rfl rfl rfl | exact Guard.F rfl rfl rfl | exact Guard.gT rfl rfl rfl | exact Guard.gF rfl rfl rfl) (v_int SS) ?_
              refine s_val (v_or SS) ?_
              refine s_move SS ?_
              first | refine s_gg (by first | exact Guard.T rfl rfl rfl | exact Guard.F rfl rfl rfl | exact Guard.gT rfl rfl rfl | exact Guard.gF rfl rfl rfl) (v_field SS) ?_ | refine s_gg (by first | exact Guard.T rfl rfl rfl | exact Guard.F rfl rfl rfl | exact Guard.gT rfl rfl rfl | exact Guard.gF rfl rfl rfl) (v_fieldp SS) ?_
              first | refine s_gg (by first | exact Guard.T rfl rfl rfl | exact Guard.F rfl rfl rfl | exact Guard.gT rfl rfl rfl | exact Guard.gF rfl rfl rfl) (v_load SS) ?_ | refine s_gg (by first | exact Guard.T rfl rfl rfl | exact Guard.F rfl rfl rfl | exact Guard.gT rfl rfl rfl | exact Guard.gF rfl rfl rfl) (v_loadp SS) ?_
              refine s_gg (by first | exact Guard.T rfl rfl rfl | exact Guard.F rfl rfl rfl | exact Guard.gT rfl rfl rfl | exact Guard.gF rfl rfl rfl) (v_int SS) ?_
              refine s_val (v_or SS) ?_
              refine s_move SS ?_
              first | refine s_gg (by first | exact Guard.T rfl rfl rfl | exact Guard.F rfl rfl rfl | exact Guard.gT rfl rfl rfl | exact Guard.gF rfl rfl rfl) (v_field SS) ?_ | refine s_gg (by first | exact Guard.T rfl rfl rfl | exact Guard.F rfl rfl rfl | exact Guard.gT rfl rfl rfl | exact Guard.gF rfl rfl rfl) (v_fieldp SS) ?_
              first | refine s_gg (by first | exact Guard.T rfl rfl rfl | exact Guard.F rfl rfl rfl | exact Guard.gT rfl rfl rfl | exact Guard.gF rfl rfl rfl) (v_load SS) ?_ | refine s_gg (by first | exact Guard.T rfl rfl rfl | exact Guard.F rfl rfl rfl | exact Guard.gT rfl rfl rfl | exact Guard.gF rfl rfl rfl) (v_loadp SS) ?_
              refine s_gg (by first | exact Guard.T rfl rfl rfl | exact Guard.F rfl rfl rfl | exact Guard.gT rfl rfl rfl | exact Guard.gF rfl rfl rfl) (v_move SS) ?_
              refine s_gg (by first | exact Guard.T rfl rfl rfl | exact Guard.F rfl rfl rfl | exact Guard.gT rfl rfl rfl | exact Guard.gF rfl rfl rfl) (v_callD (fun _ => off_c n 0 _)) ?_
              refine s_val (v_and SS) ?_
              refine e_seq ?_
              repeat refine Tri.seq ?_
              refine Tri.cond rfl (fun h11 => ?_) (fun h11 => ?_)
              · skip
                repeat refine Tri.seq ?_
                refine Tri.region mixed ?_
                refine s_val (v_assign SS) ?_
                refine e_seq ?_
                repeat refine Tri.seq ?_
                exact Tri.ret ⟨.inr rfl, ret1 rfl resV_tmp (iv_imp (by first | (simp only [termErr, *, Bool.false_eq_true, Bool.true_and, Bool.false_and, Bool.or_false, Bool.or_true, Bool.true_or, Bool.false_or, if_false, if_true]; done) | (exfalso; simp_all; done) | (unfold termErr; (repeat' split) <;> simp_all <;> omega))), by repeat (first | exact OutH.nil | refine OutH.cons rfl (by first | exact ObImp.refl _ | exact OWk.imp (by repeat constructor)) ?_)⟩
              · skip
                refine Tri.skip ?_
                repeat refine Tri.seq ?_
                refine Tri.region mixed ?_
                refine s_val (v_assign SS) ?_
                refine e_seq ?_
                repeat refine Tri.seq ?_
                exact Tri.ret ⟨.inr rfl, ret1 rfl resV_tmp (iv_imp (by first | (simp only [termErr, *, Bool.false_eq_true, Bool.true_and, Bool.false_and, Bool.or_false, Bool.or_true, Bool.true_or, Bool.false_or, if_false, if_true]; done) | (exfalso; simp_all; done) | (unfold termErr; (repeat' split) <;> simp_all <;> omega))), by repeat (first | exact OutH.nil | refine OutH.cons rfl (by first | exact ObImp.refl _ | exact OWk.imp (by repeat constructor)) ?_)⟩
            · skip
              repeat refine Tri.seq ?_
              refine Tri.region mixed ?_
              refine s_val (v_int SS) ?_
              first | refine s_assignOw ?_ | refine s_val (v_assign SS) ?_
              refine e_seq ?_
              repeat refine Tri.seq ?_
              refine Tri.cond rfl (fun h7 => ?_) (fun h7 => ?_)
              · skip
                repeat refine Tri.seq ?_
                refine Tri.region mixed ?_
                first | refine s_val (v_field SS) ?_ | refine s_val (v_fieldp SS) ?_
                first | refine s_val (v_load SS) ?_ | refine s_val (v_loadp SS) ?_
                first | refine s_val (v_field SS) ?_ | refine s_val (v_fieldp SS) ?_
                first | refine s_val (v_load SS) ?_ | refine s_val (v_loadp SS) ?_
                refine s_move SS ?_
                refine s_val (v_callO (fun _ => known_c depth n bound)) ?_
                refine s_val (v_not SS) ?_
                refine e_seq ?_
                repeat refine Tri.seq ?_
                refine Tri.cond rfl (fun h8 => ?_) (fun h8 => ?_)
                · skip
                  repeat refine Tri.seq ?_
                  refine Tri.region mixed ?_
                  refine s_val (v_assign SS) ?_
                  refine e_seq ?_
                  repeat refine Tri.seq ?_
                  exact Tri.ret ⟨.inr rfl, ret1 rfl resV_tmp (iv_imp (by first | (simp only [termErr, *, Bool.false_eq_true, Bool.true_and, Bool.false_and, Bool.or_false, Bool.or_true, Bool.true_or, Bool.false_or, if_false, if_true]; done) | (exfalso; simp_all; done) | (unfold termErr; (repeat' split) <;> simp_all <;> omega))), by repeat (first | exact OutH.nil | refine OutH.cons rfl (by first | exact ObImp.refl _ | exact OWk.imp (by repeat constructor)) ?_)⟩
                · skip
                  refine Tri.skip ?_
                  repeat refine Tri.seq ?_
                  refine Tri.region mixed ?_
                  first | refine s_val (v_field SS) ?_ | refine s_val (v_fieldp SS) ?_
                  first | refine s_val (v_load SS) ?_ | refine s_val (v_loadp SS) ?_
                  refine s_val (v_int SS) ?_
                  refine s_move SS ?_
                  first | refine s_gg (by first | exact Guard.T rfl rfl rfl | exact Guard.F rfl rfl rfl | exact Guard.gT rfl rfl rfl | exact Guard.gF rfl rfl rfl) (v_field SS) ?_ | refine s_gg (by first | exact Guard.T rfl rfl rfl | exact Guard.F rfl rfl rfl | exact Guard.gT rfl rfl rfl | exact Guard.gF rfl rfl rfl) (v_fieldp SS) ?_
                  first | refine s_gg (by first | exact Guard.T rfl rfl rfl | exact Guard.F rfl rfl rfl | exact Guard.gT rfl rfl rfl | exact Guard.gF rfl rfl rfl) (v_load SS) ?_ | refine s_gg (by first | exact Guard.T rfl rfl rfl | exact Guard.F rfl rfl rfl | exact Guard.gT rfl rfl rfl | exact Guard.gF rfl rfl rfl) (v_loadp SS) ?_
                  refine s_gg (by first | exact Guard.T rfl rfl rfl | exact Guard.F rfl rfl rfl | exact Guard.gT rfl rfl rfl | exact Guard.gF rfl rfl rfl) (v_int SS) ?_
                  refine s_val (v_or SS) ?_
                  refine s_move SS ?_
                  first | refine s_gg (by first | exact Guard.T rfl rfl rfl | exact Guard.F rfl rfl rfl | exact Guard.gT rfl rfl rfl | exact Guard.gF rfl rfl rfl) (v_field SS) ?_ | refine s_gg (by first | exact Guard.T rfl rfl rfl | exact Guard.F rfl rfl rfl | exact Guard.gT rfl rfl rfl | exact Guard.gF rfl rfl rfl) (v_fieldp SS) ?_
                  first | refine s_gg (by first | exact Guard.T rfl rfl rfl | exact Guard.F rfl rfl rfl | exact Guard.gT rfl rfl rfl | exact Guard.gF rfl rfl rfl) (v_load SS) ?_ | refine s_gg (by first | exact Guard.T rfl rfl rfl | exact Guard.F rfl rfl rfl | exact Guard.gT rfl rfl rfl | exact Guard.gF rfl rfl rfl) (v_loadp SS) ?_
                  refine s_gg (by first | exact Guard.T rfl rfl rfl | exact Guard.F rfl rfl rfl | exact Guard.gT rfl rfl rfl | exact Guard.gF rfl rfl rfl) (v_int SS) ?_
                  refine s_val (v_or SS) ?_
                  refine s_move SS ?_
                  first | refine s_gg (by first | exact Guard.T rfl rfl rfl | exact Guard.F rfl rfl rfl | exact Guard.gT rfl rfl rfl | exact Guard.gF rfl rfl rfl) (v_field SS) ?_ | refine s_gg (by first | exact Guard.T rfl rfl rfl | exact Guard.F rfl rfl rfl | exact Guard.gT rfl rfl rfl | exact Guard.gF rfl rfl rfl) (v_fieldp SS) ?_
                  first | refine s_gg (by first | exact Guard.T rfl rfl rfl | exact Guard.F rfl rfl rfl | exact Guard.gT rfl rfl rfl | exact Guard.gF rfl rfl rfl) (v_load SS) ?_ | refine s_gg (by first | exact Guard.T rfl rfl rfl | exact Guard.F rfl rfl rfl | exact Guard.gT rfl rfl rfl | exact Guard.gF rfl rfl rfl) (v_loadp SS) ?_
                  refine s_gg (by first | exact Guard.T rfl rfl rfl | exact Guard.F rfl rfl rfl | exact Guard.gT rfl rfl rfl | exact Guard.gF rfl rfl rfl) (v_move SS) ?_
                  refine s_gg (by first | exact Guard.T rfl rfl rfl | exact Guard.F rfl rfl rfl | exact Guard.gT rfl rfl rfl | exact Guard.gF rfl rfl rfl) (v_callD (fun _ => off_c n 0 _)) ?_
                  refine s_val (v_and SS) ?_
                  refine e_seq ?_
                  repeat refine Tri.seq ?_
                  refine Tri.cond rfl (fun h11 => ?_) (fun h11 => ?_)
                  · skip
                    repeat refine Tri.seq ?_
                    refine Tri.region mixed ?_
                    refine s_val (v_assign SS) ?_
                    refine e_seq ?_
                    repeat refine Tri.seq ?_
                    exact Tri.ret ⟨.inr rfl, ret1 rfl resV_tmp (iv_imp (by first | (simp only [termErr, *, Bool.false_eq_true, Bool.true_and, Bool.false_and, Bool.or_false, Bool.or_true, Bool.true_or, Bool.false_or, if_false, if_true]; done) | (exfalso; simp_all; done) | (unfold termErr; (repeat' split) <;> simp_all <;> omega))), by repeat (first | exact OutH.nil | refine OutH.cons rfl (by first | exact ObImp.refl _ | exact OWk.imp (by repeat constructor)) ?_)⟩
                  · skip
                    refine Tri.skip ?_
                    repeat refine Tri.seq ?_
                    refine Tri.region mixed ?_
                    refine s_val (v_assign SS) ?_
                    refine e_seq ?_
                    repeat refine Tri.seq ?_
                    exact Tri.ret ⟨.inr rfl, ret1 rfl resV_tmp (iv_imp (by first | (simp only [termErr, *, Bool.false_eq_true, Bool.true_and, Bool.false_and, Bool.or_false, Bool.or_true, Bool.true_or, Bool.false_or, if_false, if_true]; done) | (exfalso; simp_all; done) | (unfold termErr; (repeat' split) <;> simp_all <;> omega))), by repeat (first | exact OutH.nil | refine OutH.cons rfl (by first | exact ObImp.refl _ | exact OWk.imp (by repeat constructor)) ?_)⟩
              · skip
                repeat refine Tri.seq ?_
                refine Tri.region mixed ?_
                refine s_val (v_int SS) ?_
                first | refine s_assignOw ?_ | refine s_val (v_assign SS) ?_
                refine e_seq ?_
                repeat refine Tri.seq ?_
                refine Tri.cond rfl (fun h9 => ?_) (fun h9 => ?_)
                · skip
                  repeat refine Tri.seq ?_
                  refine Tri.region mixed ?_
                  first | refine s_val (v_field SS) ?_ | refine s_val (v_fieldp SS) ?_
                  first | refine s_val (v_load SS) ?_ | refine s_val (v_loadp SS) ?_
                  refine s_val (v_int SS) ?_
                  refine s_move SS ?_
                  first | refine s_gg (by first | exact Guard.T rfl rfl rfl | exact Guard.F rfl rfl rfl | exact Guard.gT rfl rfl rfl | exact Guard.gF rfl rfl rfl) (v_field SS) ?_ | refine s_gg (by first | exact Guard.T rfl rfl rfl | exact Guard.F rfl rfl rfl | exact Guard.gT rfl rfl rfl | exact Guard.gF rfl rfl rfl) (v_fieldp SS) ?_
                  first | refine s_gg (by first | exact Guard.T rfl rfl rfl | exact Guard.F rfl rfl rfl | exact Guard.gT rfl rfl rfl | exact Guard.gF rfl rfl rfl) (v_load SS) ?_ | refine s_gg (by first | exact Guard.T rfl rfl rfl | exact Guard.F rfl rfl rfl | exact Guard.gT rfl rfl rfl | exact Guard.gF rfl rfl rfl) (v_loadp SS) ?_
                  first | refine s_gg (by first | exact Guard.T rfl rfl rfl | exact Guard.F rfl rfl rfl | exact Guard.gT rfl rfl rfl | exact Guard.gF rfl rfl rfl) (v_field SS) ?_ | refine s_gg (by first | exact Guard.T rfl rfl rfl | exact Guard.F rfl rfl rfl | exact Guard.gT rfl rfl rfl | exact Guard.gF rfl rfl rfl) (v_fieldp SS) ?_
                  first | refine s_gg (by first | exact Guard.T rfl rfl rfl | exact Guard.F rfl rfl rfl | exact Guard.gT rfl rfl rfl | exact Guard.gF rfl rfl rfl) (v_load SS) ?_ | refine s_gg (by first | exact Guard.T rfl rfl rfl | exact Guard.F rfl rfl rfl | exact Guard.gT rfl rfl rfl | exact Guard.gF rfl rfl rfl) (v_loadp SS) ?_
                  refine s_gg (by first | exact Guard.T rfl rfl rfl | exact Guard.F rfl rfl rfl | exact Guard.gT rfl rfl rfl | exact Guard.gF rfl rfl rfl) (v_int SS) ?_
                  refine s_val (v_or SS) ?_
                  refine e_seq ?_
                  repeat refine Tri.seq ?_
                  refine Tri.cond rfl (fun h10 => ?_) (fun h10 => ?_)
                  · skip
                    repeat refine Tri.seq ?_
                    refine Tri.region mixed ?_
                    refine s_val (v_assign SS) ?_
                    refine e_seq ?_
                    repeat refine Tri.seq ?_
                    exact Tri.ret ⟨.inr rfl, ret1 rfl resV_tmp (iv_imp (by first | (simp only [termErr, *, Bool.false_eq_true, Bool.true_and, Bool.false_and, Bool.or_false, Bool.or_true, Bool.true_or, Bool.false_or, if_false, if_true]; done) | (exfalso; simp_all; done) | (unfold termErr; (repeat' split) <;> simp_all <;> omega))), by repeat (first | exact OutH.nil | refine OutH.cons rfl (by first | exact ObImp.refl _ | exact OWk.imp (by repeat constructor)) ?_)⟩
                  · skip
                    refine Tri.skip ?_
                    repeat refine Tri.seq ?_
                    refine Tri.region mixed ?_
                    first | refine s_val (v_field SS) ?_ | refine s_val (v_fieldp SS) ?_
                    first | refine s_val (v_load SS) ?_ | refine s_val (v_loadp SS) ?_
                    refine s_val (v_int SS) ?_
                    refine s_move SS ?_
                    first | refine s_gg (by first | exact Guard.T rfl rfl rfl | exact Guard.F rfl rfl rfl | exact Guard.gT rfl rfl rfl | exact Guard.gF rfl rfl rfl) (v_field SS) ?_ | refine s_gg (by first | exact Guard.T rfl rfl rfl | exact Guard.F rfl rfl rfl | exact Guard.gT rfl rfl rfl | exact Guard.gF rfl rfl rfl) (v_fieldp SS) ?_
                    first | refine s_gg (by first | exact Guard.T rfl rfl rfl | exact Guard.F rfl rfl rfl | exact Guard.gT rfl rfl rfl | exact Guard.gF rfl rfl rfl) (v_load SS) ?_ | refine s_gg (by first | exact Guard.T rfl rfl rfl | exact Guard.F rfl rfl rfl | exact Guard.gT rfl rfl rfl | exact Guard.gF rfl rfl rfl) (v_loadp SS) ?_
                    refine s_gg (by first | exact Guard.T rfl rfl rfl | exact Guard.F rfl rfl rfl | exact Guard.gT rfl rfl rfl | exact Guard.gF rfl rfl rfl) (v_int SS) ?_
                    refine s_val (v_or SS) ?_
                    refine s_move SS ?_
                    first | refine s_gg (by first | exact Guard.T rfl rfl rfl | exact Guard.F rfl rfl rfl | exact Guard.gT rfl rfl rfl | exact Guard.gF rfl rfl rfl) (v_field SS) ?_ | refine s_gg (by first | exact Guard.T rfl rfl rfl | exact Guard.F rfl rfl rfl | exact Guard.gT rfl rfl rfl | exact Guard.gF rfl rfl rfl) (v_fieldp SS) ?_
                    first | refine s_gg (by first | exact Guard.T rfl rfl rfl | exact Guard.F rfl rfl rfl | exact Guard.gT rfl rfl rfl | exact Guard.gF rfl rfl rfl) (v_load SS) ?_ | refine s_gg (by first | exact Guard.T rfl rfl rfl | exact Guard.F rfl rfl rfl | exact Guard.gT rfl rfl rfl | exact Guard.gF rfl rfl rfl) (v_loadp SS) ?_
                    refine s_gg (by first | exact Guard.T rfl rfl rfl | exact Guard.F rfl rfl rfl | exact Guard.gT rfl rfl rfl | exact Guard.gF rfl rfl rfl) (v_int SS) ?_
                    refine s_val (v_or SS) ?_
                    refine s_move SS ?_
                    first | refine s_gg (by first | exact Guard.T rfl rfl rfl | exact Guard.F rfl rfl rfl | exact Guard.gT rfl rfl rfl | exact Guard.gF rfl rfl rfl) (v_field SS) ?_ | refine s_gg (by first | exact Guard.T rfl rfl rfl | exact Guard.F rfl rfl rfl | exact Guard.gT rfl rfl rfl | exact Guard.gF rfl rfl rfl) (v_fieldp SS) ?_
                    first | refine s_gg (by first | exact Guard.T rfl rfl rfl | exact Guard.F rfl rfl rfl | exact Guard.gT rfl rfl rfl | exact Guard.gF rfl rfl rfl) (v_load SS) ?_ | refine s_gg (by first | exact Guard.T rfl rfl rfl | exact Guard.F rfl rfl rfl | exact Guard.gT rfl rfl rfl | exact Guard.gF rfl rfl rfl) (v_loadp SS) ?_
                    refine s_gg (by first | exact Guard.T rfl rfl rfl | exact Guard.F rfl rfl rfl | exact Guard.gT rfl rfl rfl | exact Guard.gF rfl rfl rfl) (v_move SS) ?_
                    refine s_gg (by first | exact Guard.T rfl rfl rfl | exact Guard.F rfl rfl rfl | exact Guard.gT rfl rfl rfl | exact Guard.gF rfl rfl rfl) (v_callD (fun _ => off_c n 0 _)) ?_
                    refine s_val (v_and SS) ?_
                    refine e_seq ?_
                    repeat refine Tri.seq ?_
                    refine Tri.cond rfl (fun h11 => ?_) (fun h11 => ?_)
                    · skip
                      repeat refine Tri.seq ?_
                      refine Tri.region mixed ?_
                      refine s_val (v_assign SS) ?_
                      refine e_seq ?_
                      repeat refine Tri.seq ?_
                      exact Tri.ret ⟨.inr rfl, ret1 rfl resV_tmp (iv_imp (by first | (simp only [termErr, *, Bool.false_eq_true, Bool.true_and, Bool.false_and, Bool.or_false, Bool.or_true, Bool.true_or, Bool.false_or, if_false, if_true]; done) | (exfalso; simp_all; done) | (unfold termErr; (repeat' split) <;> simp_all <;> omega))), by repeat (first | exact OutH.nil | refine OutH.cons rfl (by first | exact ObImp.refl _ | exact OWk.imp (by repeat constructor)) ?_)⟩
                    · skip
                      refine Tri.skip ?_
                      repeat refine Tri.seq ?_
                      refine Tri.region mixed ?_
                      refine s_val (v_assign SS) ?_
                      refine e_seq ?_
                      repeat refine Tri.seq ?_
                      exact Tri.ret ⟨.inr rfl, ret1 rfl resV_tmp (iv_imp (by first | (simp only [termErr, *, Bool.false_eq_true, Bool.true_and, Bool.false_and, Bool.or_false, Bool.or_true, Bool.true_or, Bool.false_or, if_false, if_true]; done) | (exfalso; simp_all; done) | (unfold termErr; (repeat' split) <;> simp_all <;> omega))), by repeat (first | exact OutH.nil | refine OutH.cons rfl (by first | exact ObImp.refl _ | exact OWk.imp (by repeat constructor)) ?_)⟩
                · skip
                  refine Tri.skip ?_
                  repeat refine Tri.seq ?_
                  refine Tri.region mixed ?_
                  first | refine s_val (v_field SS) ?_ | refine s_val (v_fieldp SS) ?_
                  first | refine s_val (v_load SS) ?_ | refine s_val (v_loadp SS) ?_
                  refine s_val (v_int SS) ?_
                  refine s_move SS ?_
                  first | refine s_gg (by first | exact Guard.T rfl rfl rfl | exact Guard.F rfl rfl rfl | exact Guard.gT rfl rfl rfl | exact Guard.gF rfl rfl rfl) (v_field SS) ?_ | refine s_gg (by first | exact Guard.T rfl rfl rfl | exact Guard.F rfl rfl rfl | exact Guard.gT rfl rfl rfl | exact Guard.gF rfl rfl rfl) (v_fieldp SS) ?_
                  first | refine s_gg (by first | exact Guard.T rfl rfl rfl | exact Guard.F rfl rfl rfl | exact Guard.gT rfl rfl rfl | exact Guard.gF rfl rfl rfl) (v_load SS) ?_ | refine s_gg (by first | exact Guard.T rfl rfl rfl | exact Guard.F rfl rfl rfl | exact Guard.gT rfl rfl rfl | exact Guard.gF rfl rfl rfl) (v_loadp SS) ?_
                  refine s_gg (by first | exact Guard.T rfl rfl rfl | exact Guard.F rfl rfl rfl | exact Guard.gT rfl rfl rfl | exact Guard.gF rfl rfl rfl) (v_int SS) ?_
                  refine s_val (v_or SS) ?_
                  refine s_move SS ?_
                  first | refine s_gg (by first | exact Guard.T rfl rfl rfl | exact Guard.F rfl rfl rfl | exact Guard.gT rfl rfl rfl | exact Guard.gF rfl rfl rfl) (v_field SS) ?_ | refine s_gg (by first | exact Guard.T rfl rfl rfl | exact Guard.F rfl rfl rfl | exact Guard.gT rfl rfl rfl | exact Guard.gF rfl rfl rfl) (v_fieldp SS) ?_
                  first | refine s_gg (by first | exact Guard.T rfl rfl rfl | exact Guard.F rfl rfl rfl | exact Guard.gT rfl rfl rfl | exact Guard.gF rfl rfl rfl) (v_load SS) ?_ | refine s_gg (by first | exact Guard.T rfl rfl rfl | exact Guard.F rfl rfl rfl | exact Guard.gT rfl rfl rfl | exact Guard.gF rfl rfl rfl) (v_loadp SS) ?_
                  refine s_gg (by first | exact Guard.T rfl rfl rfl | exact Guard.F rfl rfl rfl | exact Guard.gT rfl rfl rfl | exact Guard.gF rfl rfl rfl) (v_int SS) ?_
                  refine s_val (v_or SS) ?_
                  refine s_move SS ?_
                  first | refine s_gg (by first | exact Guard.T rfl rfl rfl | exact Guard.F rfl rfl rfl | exact Guard.gT rfl rfl rfl | exact Guard.gF rfl rfl rfl) (v_field SS) ?_ | refine s_gg (by first | exact Guard.T rfl rfl rfl | exact Guard.F rfl rfl rfl | exact Guard.gT rfl rfl rfl | exact Guard.gF rfl rfl rfl) (v_fieldp SS) ?_
                  first | refine s_gg (by first | exact Guard.T rfl rfl rfl | exact Guard.F rfl rfl rfl | exact Guard.gT rfl rfl rfl | exact Guard.gF rfl rfl rfl) (v_load SS) ?_ | refine s_gg (by first | exact Guard.T rfl rfl rfl | exact Guard.F rfl rfl rfl | exact Guard.gT rfl rfl rfl | exact Guard.gF rfl rfl rfl) (v_loadp SS) ?_
                  refine s_gg (by first | exact Guard.T rfl rfl rfl | exact Guard.F rfl rfl rfl | exact Guard.gT rfl rfl rfl | exact Guard.gF rfl rfl rfl) (v_move SS) ?_
                  refine s_gg (by first | exact Guard.T rfl rfl rfl | exact Guard.F rfl rfl rfl | exact Guard.gT rfl rfl rfl | exact Guard.gF rfl rfl rfl) (v_callD (fun _ => off_c n 0 _)) ?_
                  refine s_val (v_and SS) ?_
                  refine e_seq ?_
                  repeat refine Tri.seq ?_
                  refine Tri.cond rfl (fun h11 => ?_) (fun h11 => ?_)
                  · skip
                    repeat refine Tri.seq ?_
                    refine Tri.region mixed ?_
                    refine s_val (v_assign SS) ?_
                    refine e_seq ?_
                    repeat refine Tri.seq ?_
                    exact Tri.ret ⟨.inr rfl, ret1 rfl resV_tmp (iv_imp (by first | (simp only [termErr, *, Bool.false_eq_true, Bool.true_and, Bool.false_and, Bool.or_false, Bool.or_true, Bool.true_or, Bool.false_or, if_false, if_true]; done) | (exfalso; simp_all; done) | (unfold termErr; (repeat' split) <;> simp_all <;> omega))), by repeat (first | exact OutH.nil | refine OutH.cons rfl (by first | exact ObImp.refl _ | exact OWk.imp (by repeat constructor)) ?_)⟩
                  · skip
                    refine Tri.skip ?_
                    repeat refine Tri.seq ?_
                    refine Tri.region mixed ?_
                    refine s_val (v_assign SS) ?_
                    refine e_seq ?_
                    repeat refine Tri.seq ?_
                    exact Tri.ret ⟨.inr rfl, ret1 rfl resV_tmp (iv_imp (by first | (simp only [termErr, *, Bool.false_eq_true, Bool.true_and, Bool.false_and, Bool.or_false, Bool.or_true, Bool.true_or, Bool.false_or, if_false, if_true]; done) | (exfalso; simp_all; done) | (unfold termErr; (repeat' split) <;> simp_all <;> omega))), by repeat (first | exact OutH.nil | refine OutH.cons rfl (by first | exact ObImp.refl _ | exact OWk.imp (by repeat constructor)) ?_)⟩
theorem cterm_c (members depth bound : Int) (k n : Int) (r : List Int) (ks : List Tm) (cs : List Cs) :
    HCall Tryd.prog G 94 [chV members, .pu (tmc 0 (.mk k n r ks cs)), iv .i64 bound] (dpO depth) [] (iv .i64 (termErr members depth bound k n r ks.length cs.length)) [] [] := by
  have := cterm_c' (G := G) members depth bound k n r ks cs
  rwa [tms_length, css_length] at this
end Go.Proofs.YtkcgkignhpepkaaDoor

/- The parts of a term, and the checker of all of them. -/
namespace Go.Proofs.YtkcgkignhpepkaaDoor
open Go Hs
variable {G : List (Nat × TypeId × Pu)}

def csT : Cs → Tm
  | .mk _ t => t
def csB : Cs → Int
  | .mk p _ => bindsM p
structure It where
  i : Int
  t : Tm
  more : Int
def kidIts (k : Int) (ks : List Tm) : List It := ks.mapIdx fun i x => ⟨i, x, moreM k i⟩
def caseIts (n : Nat) (cs : List Cs) : List It := cs.mapIdx fun i c => ⟨(n : Int) + i, csT c, csB c⟩
def itsOf : Tm → List It
  | .mk k _ _ ks cs => kidIts k ks ++ caseIts ks.length cs
def partP (t : Tm) (m : Int) : Pu := .agg 155 [tmc 0 t, .leaf (.int .i64 m)]
def itE (x : It) : List PV := [iv .i64 x.i, .pu (partP x.t x.more)]

theorem parts_c (t : Tm) : HCall Tryd.prog G 96 [.pu (tmc 0 t)] [] [] (.fn (.func 105) [] [.ptr 801 [] 30]) [(801, .var 30 (.pu (tmc 0 t)))] [801] := by
  refine HCall.of_triD tbl 4 [] Tryd.func96 rfl rfl rfl fun w0 M ρ0 D0 => ?_
  repeat refine Tri.seq ?_
  refine Tri.region mixed ?_
  refine s_box SS 801 ?_
  refine s_val (v_assign SS) ?_
  refine e_seqN [801] ?_
  repeat refine Tri.seq ?_
  refine Tri.region mixed ?_
  refine s_val (v_mkFnD SS) ?_
  first | refine s_assignOw ?_ | refine s_val (v_assign SS) ?_
  refine e_seq ?_
  repeat refine Tri.seq ?_
  exact Tri.ret ⟨.inr rfl, ret1 rfl resV_tmp (VImp.refl _), by repeat (first | exact OutH.nil | refine OutH.cons rfl (by first | exact ObImp.refl _ | exact OWk.imp (by repeat constructor)) ?_)⟩

/-- The objects of a loop over parts: what is found. -/
abbrev foO (e : Int) : List (Nat × Ob) := [(6, .var 61 (iv .i64 e))]
def rOf (r : Loop) : Option Int → Loop
  | none => r
  | some _ => doneL r .ret
def zOf : Option Int → Int
  | none => 0
  | some e => e
theorem yc_parts {P : Program} {X : Ctx} {l lam : Nat} {r : Loop} {HR : List (Nat × Ob)} {enc : It → List PV} {out : It → Option Int} {x : It} (h : YC P X l lam r HR (foO 0) enc out (fun _ => .ret) foO x) : YCall P X l (enc x) HR ((lam, .loop r) :: foO 0) (bv (out x).isNone) [(lam, .loop (rOf r (out x))), (6, .var 61 (iv .i64 (zOf (out x))))] := by
  unfold YC at h
  cases ho : out x with
  | none => rw [ho] at h; exact h
  | some e => rw [ho] at h; exact h

theorem find_at {α β : Type} {out : α → Option β} {l : List α} {i : Nat} (hi : i < l.length) (h : ∀ j (hj : j < i), out (l[j]'(by omega)) = none) {e : β} (he : out l[i] = some e) : l.findSome? out = some e := by
  induction l generalizing i with
  | nil => simp at hi
  | cons a l ih =>
    cases i with
    | zero => simp at he; simp [he]
    | succ i =>
      have h0 := h 0 (by omega)
      simp at h0
      simp only [List.findSome?_cons, h0]
      exact ih (by simpa using hi) (fun j hj => by have := h (j + 1) (by omega); simpa using this) (by simpa using he)
theorem find_none {α β : Type} {out : α → Option β} {l : List α} (h : ∀ j (hj : j < l.length), out l[j] = none) : l.findSome? out = none := by
  rw [List.findSome?_eq_none_iff]
  intro x hx
  obtain ⟨j, hj, rfl⟩ := List.getElem_of_mem hx
  exact h j hj

abbrev paO (t : Tm) (members depth bound : Int) : List (Nat × Ob) := [(801, .var 30 (.pu (tmc 0 t))), (3, .var 144 (chV members)), (5, .var 3 (iv .i64 bound)), (901, .var 3 (iv .i64 depth))]

theorem parts1_c (t : Tm) (hs : tsize t < 2^40) (members depth bound : Int) (out : It → Option Int) :
    IterC Tryd.prog G 105 [.ptr 801 [] 30] 900 [801, 3, 5, 901, 6, 900] (paO t members depth bound) (foO 0) (itsOf t) itE out (fun _ => .ret) foO := by
  obtain ⟨k, n, r, ks, cs⟩ := t
  refine IterC.of_tri tbl 49 Tryd.func105 rfl rfl (fun r z => by cases z <;> rfl) fun l rc w0 M ρ0 D0 hy => ?_
  simp only [tsize] at hs
  have hlen := length_tsizeL ks
  have hlenc := length_csizeL cs
  have hk : ∀ i (hi : i < ks.length), (itsOf (.mk k n r ks cs))[i]'(by simp [itsOf, kidIts, caseIts]; omega) = ⟨i, ks[i], moreM k i⟩ := fun i hi => by
    simp [itsOf, kidIts, List.getElem_append_left, hi]
  have hc : ∀ i (hi : i < cs.length), (itsOf (.mk k n r ks cs))[ks.length + i]'(by simp [itsOf, kidIts, caseIts]; omega) = ⟨(ks.length : Int) + i, csT cs[i], csB cs[i]⟩ := fun i hi => by
    simp [itsOf, kidIts, caseIts, List.getElem_append_right]
  have hL : (itsOf (.mk k n r ks cs)).length = ks.length + cs.length := by simp [itsOf, kidIts, caseIts]
  repeat refine Tri.seq ?_
  refine Tri.region mixed ?_
  first | refine s_val (v_field SS) ?_ | refine s_val (v_fieldp SS) ?_
  first | refine s_load SS ?_ | refine s_val (v_loadp SS) ?_
  first | refine s_val (v_len SS) ?_ | refine s_val (v_lenx SS) ?_ | refine s_val (v_len0 SS) ?_ | refine s_val (v_lena SS) ?_
  refine s_val (v_move SS) ?_
  refine e_seq ?_
  repeat refine Tri.seq ?_
  refine Tri.block (Tri.loopW (σ := {i : Nat // ∀ j (hj : j < i) (hl : j < ks.length), out ⟨j, ks[j], moreM k j⟩ = none}) (fun i => ⟨[(0, .fn (.yield l) [] []), (1, .ptr 801 [] 30), (8, .pu (.sl 0 30 (tmsc 0 ks))), (9, iv .i64 (tmsc 0 ks).length), (10, iv .i64 i.1)], [(801, .var 30 (.pu (tmc 0 (.mk k n r ks cs)))), (3, .var 144 (chV members)), (5, .var 3 (iv .i64 bound)), (901, .var 3 (iv .i64 depth)), (900, .loop rc), (6, .var 61 (iv .i64 0))]⟩) (fun i => ks.length - i.1) ⟨0, by intro j hj; omega⟩ ?_ ?_ (fun i => ?_))
  · repeat (first | exact .nil | refine .cons rfl (by first | exact .refl | (focus ((repeat constructor); done))) ?_)
  · repeat (first | exact .nil | refine .cons rfl (by first | exact .refl | (focus ((repeat constructor); done))) ?_)
  repeat refine Tri.seq ?_
  refine Tri.region mixed ?_
  refine s_val (v_int SS) ?_
  refine e_seq ?_
  repeat refine Tri.seq ?_
  refine Tri.cond rfl (fun h0 => ?_) (fun h0 => ?_)
  · skip
    have hi : i.1 < ks.length := by rw [tms_length] at h0; simpa using h0
    have hy' := yc_parts (hy ⟨i.1, ks[i.1], moreM k i.1⟩ (by rw [← hk i.1 hi]; exact List.getElem_mem _))
    refine Tri.skip ?_
    repeat refine Tri.seq ?_
    refine Tri.block ?_
    repeat refine Tri.seq ?_
    refine Tri.region mixed ?_
    refine s_move SS ?_
    refine s_val (v_index SS (h0 := by omega) (hp := tms_get hi)) ?_
    first | refine s_val (v_load SS) ?_ | refine s_val (v_loadp SS) ?_
    refine s_alloc SS 4 ?_
    first | refine s_assignOw ?_ | refine s_val (v_assign SS) ?_
    refine s_store SS ?_
    refine e_seqN [4] ?_
    repeat refine Tri.seq ?_
    refine Tri.region mixed ?_
    refine s_move SS ?_
    refine s_move SS ?_
    first | refine s_val (v_load SS) ?_ | refine s_val (v_loadp SS) ?_
    first | refine s_val (v_field SS) ?_ | refine s_val (v_fieldp SS) ?_
    first | refine s_val (v_load SS) ?_ | refine s_val (v_loadp SS) ?_
    refine s_move SS ?_
    refine s_val (v_callD (fun _ => termMore_c k i.1)) ?_
    first | refine s_val (v_litP SS) ?_ | refine s_val (v_litA SS) ?_
    refine s_yield hy' ?_
    refine s_val (v_not SS) ?_
    refine e_draw ?_
    repeat refine Tri.seq ?_
    refine Tri.cond rfl (fun h1 => ?_) (fun h1 => ?_)
    · skip
      obtain ⟨e, he⟩ : ∃ e, out ⟨i.1, ks[i.1], moreM k i.1⟩ = some e := by
        cases ho : out ⟨i.1, ks[i.1], moreM k i.1⟩ with
        | none => rw [ho] at h1; cases h1
        | some e => exact ⟨e, rfl⟩
      have hfin : (itsOf (.mk k n r ks cs)).findSome? out = some e := find_at (i := i.1) (by rw [hL]; omega) (fun j hj => by rw [hk j (by omega)]; exact i.2 j hj (by omega)) (by rw [hk i.1 hi]; exact he)
      rw [hfin]
      repeat refine Tri.seq ?_
      exact Tri.ret ⟨.inr rfl, ret0, .cons rfl (by rw [he]; exact ObImp.refl _) (.cons rfl (by rw [he]; exact ObImp.refl _) .nil)⟩
    · skip
      have he : out ⟨i.1, ks[i.1], moreM k i.1⟩ = none := by
        cases ho : out ⟨i.1, ks[i.1], moreM k i.1⟩ with
        | none => rfl
        | some e => rw [ho] at h1; cases h1
      have hnext : ∀ j (hj : j < i.1 + 1) (hl : j < ks.length), out ⟨j, ks[j], moreM k j⟩ = none := fun j hj hl => by
        rcases Nat.lt_or_ge j i.1 with h' | h'
        · exact i.2 j h' hl
        · obtain rfl : j = i.1 := by omega
          exact he
      refine Tri.skip ?_
      repeat refine Tri.seq ?_
      refine Tri.region mixed ?_
      refine s_val (v_int SS) ?_
      refine s_move SS ?_
      refine e_seq ?_
      refine ⟨⟨i.1 + 1, hnext⟩, by show ks.length - (i.1 + 1) < ks.length - i.1; omega, le_of ?_ ?_⟩
      · repeat (first | exact SubE.nil | refine SubE.cons rfl (by first | rfl | (rw [wrap64 (by omega) (by omega)]; rfl) | (rw [he]; rfl)) ?_)
      · repeat (first | exact SubH.nil | refine SubH.cons rfl (by first | rfl | (rw [wrap64 (by omega) (by omega)]; rfl) | (rw [he]; rfl)) ?_)
  · skip
    have hK : ∀ j (hj : j < ks.length), out ⟨j, ks[j], moreM k j⟩ = none := fun j hj => i.2 j (by rw [tms_length] at h0; simp at h0; omega) hj
    refine Tri.exit ?_
    repeat refine Tri.seq ?_
    refine Tri.region mixed ?_
    first | refine s_val (v_field SS) ?_ | refine s_val (v_fieldp SS) ?_
    first | refine s_load SS ?_ | refine s_val (v_loadp SS) ?_
    first | refine s_val (v_len SS) ?_ | refine s_val (v_lenx SS) ?_ | refine s_val (v_len0 SS) ?_ | refine s_val (v_lena SS) ?_
    refine s_val (v_move SS) ?_
    refine e_seq ?_
    repeat refine Tri.seq ?_
    refine Tri.block (Tri.loopW (σ := {i : Nat // ∀ j (hj : j < i) (hl : j < cs.length), out ⟨(ks.length : Int) + j, csT cs[j], csB cs[j]⟩ = none}) (fun i => ⟨[(0, .fn (.yield l) [] []), (1, .ptr 801 [] 30), (27, .pu (.sl 0 34 (cssc 0 cs))), (28, iv .i64 (cssc 0 cs).length), (29, iv .i64 i.1)], [(801, .var 30 (.pu (tmc 0 (.mk k n r ks cs)))), (3, .var 144 (chV members)), (5, .var 3 (iv .i64 bound)), (901, .var 3 (iv .i64 depth)), (900, .loop rc), (6, .var 61 (iv .i64 0))]⟩) (fun i => cs.length - i.1) ⟨0, by intro j hj; omega⟩ ?_ ?_ (fun i => ?_))
    · repeat (first | exact .nil | refine .cons rfl (by first | exact .refl | (focus ((repeat constructor); done))) ?_)
    · repeat (first | exact .nil | refine .cons rfl (by first | exact .refl | (focus ((repeat constructor); done))) ?_)
    repeat refine Tri.seq ?_
    refine Tri.region mixed ?_
    refine s_val (v_int SS) ?_
    refine e_seq ?_
    repeat refine Tri.seq ?_
    refine Tri.cond rfl (fun h2 => ?_) (fun h2 => ?_)
    · skip
      have hi : i.1 < cs.length := by rw [css_length] at h2; simpa using h2
      have hy' := hc i.1 hi ▸ yc_parts (hy _ (List.getElem_mem (l := itsOf (.mk k n r ks cs)) (n := ks.length + i.1) (by rw [hL]; omega)))
      have hget := css_get (lo := 0) hi
      have hsz := csize_mem (List.getElem_mem hi)
      have hcm := i.2
      generalize hci : cs[i.1] = ci at hy' hget hsz
      obtain ⟨q, b⟩ := ci
      simp only [csT, csB] at hy'
      have hw : IntKind.wrap .i64 (((tmsc 0 ks).length : Int) + (i.1 : Int)) = (ks.length : Int) + i.1 := by rw [tms_length, wrap64 (by omega) (by omega)]
      refine Tri.skip ?_
      repeat refine Tri.seq ?_
      refine Tri.block ?_
      repeat refine Tri.seq ?_
      refine Tri.region mixed ?_
      refine s_move SS ?_
      refine s_val (v_index SS (h0 := by omega) (hp := hget)) ?_
      first | refine s_val (v_load SS) ?_ | refine s_val (v_loadp SS) ?_
      refine s_alloc SS 66 ?_
      first | refine s_assignOw ?_ | refine s_val (v_assign SS) ?_
      refine s_store SS ?_
      refine e_seqN [66] ?_
      repeat refine Tri.seq ?_
      refine Tri.region mixed ?_
      refine s_move SS ?_
      first | refine s_val (v_field SS) ?_ | refine s_val (v_fieldp SS) ?_
      first | refine s_load SS ?_ | refine s_val (v_loadp SS) ?_
      first | refine s_val (v_len SS) ?_ | refine s_val (v_lenx SS) ?_ | refine s_val (v_len0 SS) ?_ | refine s_val (v_lena SS) ?_
      refine s_move SS ?_
      refine s_val (v_int SS) ?_
      first | refine s_val (v_field SS) ?_ | refine s_val (v_fieldp SS) ?_
      first | refine s_val (v_load SS) ?_ | refine s_val (v_loadp SS) ?_
      first | refine s_val (v_field SS) ?_ | refine s_val (v_fieldp SS) ?_
      first | refine s_val (v_load SS) ?_ | refine s_val (v_loadp SS) ?_
      refine s_val (v_callD (fun _ => termBinds_c _ q (Nat.le_refl _) (by simp only [csize] at hsz; omega))) ?_
      first | refine s_val (v_litP SS) ?_ | refine s_val (v_litA SS) ?_
      refine s_yield hy' (himp := .cons (iv_imp hw) (.cons (VImp.refl _) .nil)) ?_
      refine s_val (v_not SS) ?_
      refine e_draw ?_
      repeat refine Tri.seq ?_
      refine Tri.cond rfl (fun h3 => ?_) (fun h3 => ?_)
      · skip
        obtain ⟨e, he⟩ : ∃ e, out ⟨(ks.length : Int) + i.1, b, bindsM q⟩ = some e := by
          cases ho : out ⟨(ks.length : Int) + i.1, b, bindsM q⟩ with
          | none => rw [ho] at h3; cases h3
          | some e => exact ⟨e, rfl⟩
        have hfin : (itsOf (.mk k n r ks cs)).findSome? out = some e := find_at (i := ks.length + i.1) (by rw [hL]; omega) (fun j hj => by
          rcases Nat.lt_or_ge j ks.length with h' | h'
          · rw [hk j h']; exact hK j h'
          · obtain ⟨j', rfl⟩ := Nat.exists_eq_add_of_le h'
            rw [hc j' (by omega)]; exact hcm j' (by omega) (by omega)) (by rw [hc i.1 hi, hci]; exact he)
        rw [hfin]
        repeat refine Tri.seq ?_
        exact Tri.ret ⟨.inr rfl, ret0, .cons rfl (by rw [he]; exact ObImp.refl _) (.cons rfl (by rw [he]; exact ObImp.refl _) .nil)⟩
      · skip
        have he : out ⟨(ks.length : Int) + i.1, b, bindsM q⟩ = none := by
          cases ho : out ⟨(ks.length : Int) + i.1, b, bindsM q⟩ with
          | none => rfl
          | some e => rw [ho] at h3; cases h3
        have hnext : ∀ j (hj : j < i.1 + 1) (hl : j < cs.length), out ⟨(ks.length : Int) + j, csT cs[j], csB cs[j]⟩ = none := fun j hj hl => by
          rcases Nat.lt_or_ge j i.1 with h' | h'
          · exact hcm j h' hl
          · obtain rfl : j = i.1 := by omega
            rw [hci]; exact he
        refine Tri.skip ?_
        repeat refine Tri.seq ?_
        refine Tri.region mixed ?_
        refine s_val (v_int SS) ?_
        refine s_move SS ?_
        refine e_seq ?_
        refine ⟨⟨i.1 + 1, hnext⟩, by show cs.length - (i.1 + 1) < cs.length - i.1; omega, le_of ?_ ?_⟩
        · repeat (first | exact SubE.nil | refine SubE.cons rfl (by first | rfl | (rw [wrap64 (by omega) (by omega)]; rfl) | (rw [he]; rfl)) ?_)
        · repeat (first | exact SubH.nil | refine SubH.cons rfl (by first | rfl | (rw [wrap64 (by omega) (by omega)]; rfl) | (rw [he]; rfl)) ?_)
    · skip
      have hC : ∀ j (hj : j < cs.length), out ⟨(ks.length : Int) + j, csT cs[j], csB cs[j]⟩ = none := fun j hj => i.2 j (by rw [css_length] at h2; simp at h2; omega) hj
      have hfin : (itsOf (.mk k n r ks cs)).findSome? out = none := find_none fun j hj => by
        rcases Nat.lt_or_ge j ks.length with h' | h'
        · rw [hk j h']; exact hK j h'
        · obtain ⟨j', rfl⟩ := Nat.exists_eq_add_of_le h'
          rw [hL] at hj
          rw [hc j' (by omega)]; exact hC j' (by omega)
      rw [hfin]
      refine Tri.exit ?_
      exact ⟨.inl rfl, ret0, .cons rfl (ObImp.refl _) (.cons rfl (ObImp.refl _) .nil)⟩
end Go.Proofs.YtkcgkignhpepkaaDoor

/- The checker of terms, whole. -/
namespace Go.Proofs.YtkcgkignhpepkaaDoor
open Go Hs
variable {G : List (Nat × TypeId × Pu)}

def csP : Cs → Pat
  | .mk p _ => p
def orE (a b : Int) : Int := if a = 0 then b else a
mutual
def aerr (m d b : Int) : Tm → Int
  | .mk k n r ks cs => orE (termErr m d b k n r ks.length cs.length) (orE (firstE (fun c => perr (csP c)) cs) (orE (aerrK m d b k 0 ks) (aerrC m d b cs)))
def aerrK (m d b k : Int) (i : Nat) : List Tm → Int
  | [] => 0
  | t :: ts => orE (aerr m d (b + moreM k i) t) (aerrK m d b k (i + 1) ts)
def aerrC (m d b : Int) : List Cs → Int
  | [] => 0
  | c :: cs => orE (aerrCs m d b c) (aerrC m d b cs)
def aerrCs (m d b : Int) : Cs → Int
  | .mk p t => aerr m d (b + bindsM p) t
end
def outA (m d b : Int) (x : It) : Option Int := if aerr m d (b + x.more) x.t = 0 then none else some (aerr m d (b + x.more) x.t)
theorem zOf_append {out : It → Option Int} (h : ∀ x e, out x = some e → e ≠ 0) : ∀ (l l' : List It), zOf ((l ++ l').findSome? out) = orE (zOf (l.findSome? out)) (zOf (l'.findSome? out))
  | [], l' => by simp [orE, zOf]
  | x :: l, l' => by
    simp only [List.cons_append, List.findSome?_cons]
    cases ho : out x with
    | none => exact zOf_append h l l'
    | some e => have := h x e ho; simp [zOf, orE, this]
theorem outA_ne {m d b : Int} : ∀ x e, outA m d b x = some e → e ≠ 0 := fun x e h => by
  unfold outA at h
  split at h
  · cases h
  · rename_i h0; cases h; exact h0
theorem zK (m d b k : Int) : ∀ (ks : List Tm) (i : Nat), zOf ((ks.mapIdx fun j x => (⟨((i + j : Nat) : Int), x, moreM k ((i + j : Nat) : Int)⟩ : It)).findSome? (outA m d b)) = aerrK m d b k i ks
  | [], i => rfl
  | t :: ts, i => by
    have ih := zK m d b k ts (i + 1)
    simp only [List.mapIdx_cons, List.findSome?_cons, aerrK, Nat.add_zero]
    have e : (fun (j : Nat) (x : Tm) => (⟨((i + (j + 1) : Nat) : Int), x, moreM k ((i + (j + 1) : Nat) : Int)⟩ : It)) = fun j x => ⟨((i + 1 + j : Nat) : Int), x, moreM k ((i + 1 + j : Nat) : Int)⟩ := by funext j x; rw [show i + (j + 1) = i + 1 + j by omega]
    rw [e]
    unfold orE
    by_cases h : aerr m d (b + moreM k i) t = 0
    · rw [show outA m d b ⟨(i : Int), t, moreM k i⟩ = none by simp [outA, h], if_pos h]
      exact ih
    · rw [show outA m d b ⟨(i : Int), t, moreM k i⟩ = some (aerr m d (b + moreM k i) t) by simp [outA, h], if_neg h]
      rfl
theorem zC (m d b : Int) (n : Nat) : ∀ (cs : List Cs) (i : Nat), zOf ((cs.mapIdx fun j c => (⟨(n : Int) + ((i + j : Nat) : Int), csT c, csB c⟩ : It)).findSome? (outA m d b)) = aerrC m d b cs
  | [], i => rfl
  | .mk q t :: cs, i => by
    have ih := zC m d b n cs (i + 1)
    simp only [List.mapIdx_cons, List.findSome?_cons, aerrC, aerrCs, Nat.add_zero]
    have e : (fun (j : Nat) (c : Cs) => (⟨(n : Int) + ((i + (j + 1) : Nat) : Int), csT c, csB c⟩ : It)) = fun j c => ⟨(n : Int) + ((i + 1 + j : Nat) : Int), csT c, csB c⟩ := by funext j c; rw [show i + (j + 1) = i + 1 + j by omega]
    rw [e]
    rw [show csT (.mk q t) = t from rfl, show csB (.mk q t) = bindsM q from rfl]
    unfold orE
    by_cases h : aerr m d (b + bindsM q) t = 0
    · rw [show outA m d b ⟨(n : Int) + (i : Int), t, bindsM q⟩ = none by simp [outA, h], if_pos h]
      exact ih
    · rw [show outA m d b ⟨(n : Int) + (i : Int), t, bindsM q⟩ = some (aerr m d (b + bindsM q) t) by simp [outA, h], if_neg h]
      rfl
theorem z_its (m d b k n : Int) (r : List Int) (ks : List Tm) (cs : List Cs) : zOf ((itsOf (.mk k n r ks cs)).findSome? (outA m d b)) = orE (aerrK m d b k 0 ks) (aerrC m d b cs) := by
  have h1 := zK m d b k ks 0
  have h2 := zC m d b ks.length cs 0
  simp only [Nat.zero_add] at h1 h2
  unfold itsOf kidIts caseIts
  rw [zOf_append outA_ne, h1, h2]
theorem it_bound {k n : Int} {r : List Int} {ks : List Tm} {cs : List Cs} {x : It} (h : x ∈ itsOf (.mk k n r ks cs)) : tsize x.t ≤ tsizeL ks + csizeL cs ∧ 0 ≤ x.more ∧ x.more + 2 * tsize x.t ≤ 2 * (1 + tsizeL ks + csizeL cs) := by
  unfold itsOf kidIts caseIts at h
  rcases List.mem_append.1 h with h | h
  · obtain ⟨i, hi, rfl⟩ := List.mem_mapIdx.1 h
    have := tsize_mem (List.getElem_mem hi)
    have : moreM k i = 0 ∨ moreM k i = 1 ∨ moreM k i = 2 := by unfold moreM; split <;> (try split) <;> simp
    simp only
    omega
  · obtain ⟨i, hi, rfl⟩ := List.mem_mapIdx.1 h
    have := csize_mem (List.getElem_mem hi)
    generalize cs[i] = c at this ⊢
    obtain ⟨q, t⟩ := c
    have hb := binds_bound q
    simp only [csT, csB, csize] at this ⊢
    omega
instance (t : Tm) (m : Int) : TyV Tryd.prog 155 (.pu (partP t m)) := inferInstanceAs (TyV Tryd.prog 155 (.pu (.agg _ _)))
theorem css_pat {lo : Nat} {c : Cs} : csec lo c = .agg 34 [patc lo (csP c), tmc lo (csT c)] := by cases c; rfl

theorem all_c (members depth : Int) : ∀ (N : Nat) (t : Tm), tsize t ≤ N → N < 2^40 → ∀ bound : Int, 0 ≤ bound → bound + 2 * tsize t ≤ 2^42 →
    HCall Tryd.prog G 85 [chV members, .pu (tmc 0 t), iv .i64 bound] (dpO depth) [] (iv .i64 (aerr members depth bound t)) [] [] := by
  intro N
  induction N with
  | zero => intro t h; have := tsize_pos t; omega
  | succ N ih =>
  intro t hp hN bound hb0 hb1
  obtain ⟨k, n, r, ks, cs⟩ := t
  have hsz : tsize (.mk k n r ks cs) < 2^40 := by omega
  simp only [tsize] at hp hb1
  have hlen := length_tsizeL ks
  have hlenc := length_csizeL cs
  refine HCall.of_triD tbl 50 [] Tryd.func85 rfl rfl rfl fun w0 M ρ0 D0 => ?_
  repeat refine Tri.seq ?_
  refine Tri.region mixed ?_
  refine s_box SS 3 ?_
  refine s_box SS 4 ?_
  refine s_box SS 5 ?_
  refine s_alloc SS 6 ?_
  refine e_seqN [3, 4, 5, 6] ?_
  repeat refine Tri.seq ?_
  refine Tri.region mixed ?_
  first | refine s_val (v_load SS) ?_ | refine s_val (v_loadp SS) ?_
  first | refine s_val (v_load SS) ?_ | refine s_val (v_loadp SS) ?_
  first | refine s_val (v_load SS) ?_ | refine s_val (v_loadp SS) ?_
  refine s_val (v_callO (fun _ => cterm_c members depth bound k n r ks cs)) ?_
  first | refine s_assignOw ?_ | refine s_val (v_assign SS) ?_
  refine e_seq ?_
  repeat refine Tri.seq ?_
  refine Tri.region mixed ?_
  refine s_move SS ?_
  refine s_val (v_int SS) ?_
  refine e_seq ?_
  repeat refine Tri.seq ?_
  refine Tri.cond rfl (fun h0 => ?_) (fun h0 => ?_)
  · skip
    have h0' : termErr members depth bound k n r ks.length cs.length ≠ 0 := by simpa using h0
    repeat refine Tri.seq ?_
    refine Tri.region mixed ?_
    refine s_move SS ?_
    refine s_store SS ?_
    refine e_seq ?_
    repeat refine Tri.seq ?_
    exact Tri.ret ⟨.inr rfl, ret1 rfl resV_cell (iv_imp (by simp [aerr, orE, h0'])), by repeat (first | exact OutH.nil | refine OutH.cons rfl (by first | exact ObImp.refl _ | exact OWk.imp (by repeat constructor)) ?_)⟩
  · skip
    have h0' : termErr members depth bound k n r ks.length cs.length = 0 := by simpa using h0
    refine Tri.skip ?_
    repeat refine Tri.seq ?_
    refine Tri.region mixed ?_
    first | refine s_val (v_field SS) ?_ | refine s_val (v_fieldp SS) ?_
    first | refine s_load SS ?_ | refine s_val (v_loadp SS) ?_
    first | refine s_val (v_len SS) ?_ | refine s_val (v_lenx SS) ?_ | refine s_val (v_len0 SS) ?_ | refine s_val (v_lena SS) ?_
    refine s_val (v_move SS) ?_
    refine e_seq ?_
    repeat refine Tri.seq ?_
    refine Tri.block (Tri.loopW (σ := {i : Nat // firstE (fun c => perr (csP c)) (cs.take i) = 0}) (fun i => ⟨[(3, .ptr 3 [] 144), (4, .ptr 4 [] 30), (5, .ptr 5 [] 3), (6, .ptr 6 [] 61), (22, .pu (.sl 0 34 (cssc 0 cs))), (23, iv .i64 (cssc 0 cs).length), (24, iv .i64 i.1)], [(3, .var 144 (chV members)), (4, .var 30 (.pu (tmc 0 (.mk k n r ks cs)))), (5, .var 3 (iv .i64 bound)), (6, .var 61 (iv .i64 0)), (901, .var 3 (iv .i64 depth))]⟩) (fun i => cs.length - i.1) ⟨0, rfl⟩ ?_ ?_ (fun i => ?_))
    · repeat (first | exact .nil | refine .cons rfl (by first | exact .refl | (focus ((repeat constructor); done))) ?_)
    · repeat (first | exact .nil | refine .cons rfl (by first | exact .refl | (focus ((repeat constructor); done))) ?_)
    repeat refine Tri.seq ?_
    refine Tri.region mixed ?_
    refine s_val (v_int SS) ?_
    refine e_seq ?_
    repeat refine Tri.seq ?_
    refine Tri.cond rfl (fun h1 => ?_) (fun h1 => ?_)
    · skip
      have hi : i.1 < cs.length := by rw [css_length] at h1; simpa using h1
      have hcz := csize_mem (List.getElem_mem hi)
      have hpz : psize (csP cs[i.1]) ≤ csize cs[i.1] := by generalize cs[i.1] = c; cases c; simp only [csP, csize]; omega
      have hget := css_get (lo := 0) hi
      rw [css_pat] at hget
      refine Tri.skip ?_
      repeat refine Tri.seq ?_
      refine Tri.block ?_
      repeat refine Tri.seq ?_
      refine Tri.region mixed ?_
      refine s_val (v_index SS (h0 := by omega) (hp := hget)) ?_
      first | refine s_val (v_load SS) ?_ | refine s_val (v_loadp SS) ?_
      refine s_alloc SS 9 ?_
      refine s_store SS ?_
      refine e_seqN [9] ?_
      repeat refine Tri.seq ?_
      refine Tri.region mixed ?_
      first | refine s_val (v_field SS) ?_ | refine s_val (v_fieldp SS) ?_
      first | refine s_val (v_load SS) ?_ | refine s_val (v_loadp SS) ?_
      refine s_val (v_callD (fun _ => patternsError_c _ (csP cs[i.1]) (Nat.le_refl _) (by omega))) ?_
      first | refine s_assignOw ?_ | refine s_val (v_assign SS) ?_
      refine e_seq ?_
      repeat refine Tri.seq ?_
      refine Tri.region mixed ?_
      refine s_move SS ?_
      refine s_val (v_int SS) ?_
      refine e_seq ?_
      repeat refine Tri.seq ?_
      refine Tri.cond rfl (fun h2 => ?_) (fun h2 => ?_)
      · skip
        have h2' : perr (csP cs[i.1]) ≠ 0 := by simpa using h2
        have hf : firstE (fun c => perr (csP c)) (cs.take (i.1 + 1)) = perr (csP cs[i.1]) := by rw [firstE_take _ hi, if_pos i.2]
        have hf2 := firstE_pre (fun c => perr (csP c)) (l := cs) (i := i.1 + 1) (by rw [hf]; exact h2')
        repeat refine Tri.seq ?_
        refine Tri.region mixed ?_
        refine s_move SS ?_
        refine s_store SS ?_
        refine e_seq ?_
        repeat refine Tri.seq ?_
        exact Tri.ret ⟨.inr rfl, ret1 rfl resV_cell (iv_imp (by simp [aerr, orE, h0', hf2, hf, h2'])), by repeat (first | exact OutH.nil | refine OutH.cons rfl (by first | exact ObImp.refl _ | exact OWk.imp (by repeat constructor)) ?_)⟩
      · skip
        have h2' : perr (csP cs[i.1]) = 0 := by simpa using h2
        have hnext : firstE (fun c => perr (csP c)) (cs.take (i.1 + 1)) = 0 := by rw [firstE_take _ hi, if_pos i.2, h2']
        refine Tri.skip ?_
        repeat refine Tri.seq ?_
        refine Tri.region mixed ?_
        refine s_val (v_int SS) ?_
        refine s_move SS ?_
        refine e_seq ?_
        refine ⟨⟨i.1 + 1, hnext⟩, by show cs.length - (i.1 + 1) < cs.length - i.1; omega, le_of ?_ ?_⟩
        · repeat (first | exact SubE.nil | refine SubE.cons rfl (by first | rfl | (rw [wrap64 (by omega) (by omega)]; rfl)) ?_)
        · repeat (first | exact SubH.nil | refine SubH.cons rfl (by first | rfl | (rw [wrap64 (by omega) (by omega)]; rfl)) ?_)
    · skip
      have hz1 : firstE (fun c => perr (csP c)) cs = 0 := by have := i.2; rwa [List.take_of_length_le (by rw [css_length] at h1; simp at h1; omega)] at this
      have hz2 := z_its members depth bound k n r ks cs
      have haerr : aerr members depth bound (.mk k n r ks cs) = zOf ((itsOf (.mk k n r ks cs)).findSome? (outA members depth bound)) := by rw [hz2]; simp [aerr, orE, h0', hz1]
      refine Tri.exit ?_
      repeat refine Tri.seq ?_
      refine Tri.region mixed ?_
      first | refine s_val (v_load SS) ?_ | refine s_val (v_loadp SS) ?_
      refine s_call (parts_c (.mk k n r ks cs)) ?_
      refine e_seqN [801] ?_
      repeat refine Tri.seq ?_
      refine Tri.block ?_
      repeat refine Tri.seq ?_
      refine Tri.overFunc 900 [801, 3, 5, 901, 6, 900] [6, 900] [(3, .ptr 3 [] 144), (5, .ptr 5 [] 3), (6, .ptr 6 [] 61)] (parts1_c (.mk k n r ks cs) hsz members depth bound (outA members depth bound)) (by intro x _; rfl) (fun x hx r w0 M ρ0 D0 l => ?_) (fun hdone => ?_) (fun z hz => ?_)
      · skip
        repeat refine Tri.seq ?_
        refine Tri.region mixed ?_
        refine s_alloc SS 12 ?_
        refine s_store SS ?_
        refine e_seqN [12] ?_
        refine ⟨rfl, ?_⟩
        have hit := it_bound hx
        have hcall := ih x.t (by omega) (by omega) (bound + x.more) (by omega) (by omega)
        repeat refine Tri.seq ?_
        refine Tri.block ?_
        repeat refine Tri.seq ?_
        refine Tri.region mixed ?_
        first | refine s_val (v_load SS) ?_ | refine s_val (v_loadp SS) ?_
        first | refine s_val (v_field SS) ?_ | refine s_val (v_fieldp SS) ?_
        first | refine s_val (v_load SS) ?_ | refine s_val (v_loadp SS) ?_
        first | refine s_val (v_load SS) ?_ | refine s_val (v_loadp SS) ?_
        first | refine s_val (v_field SS) ?_ | refine s_val (v_fieldp SS) ?_
        first | refine s_val (v_load SS) ?_ | refine s_val (v_loadp SS) ?_
        refine s_val (v_int SS) ?_
        refine s_val (v_callO (fun _ => hcall)) ?_
        first | refine s_assignOw ?_ | refine s_val (v_assign SS) ?_
        refine e_seq ?_
        repeat refine Tri.seq ?_
        refine Tri.region mixed ?_
        refine s_move SS ?_
        refine s_val (v_int SS) ?_
        refine e_seq ?_
        repeat refine Tri.seq ?_
        refine Tri.cond rfl (fun h3 => ?_) (fun h3 => ?_)
        · skip
          have h3' : outA members depth bound x = some (aerr members depth (bound + x.more) x.t) := by unfold outA; rw [if_neg (by simpa using h3)]
          repeat refine Tri.seq ?_
          refine Tri.region mixed ?_
          refine s_move SS ?_
          refine s_store SS ?_
          refine e_seq ?_
          repeat refine Tri.seq ?_
          refine Tri.ret ⟨rfl, ?_, ?_⟩
          · rw [h3']; rfl
          · rw [h3']; exact .cons rfl (ObImp.refl _) .nil
        · skip
          have h3' : outA members depth bound x = none := by unfold outA; rw [if_pos (by simpa using h3)]
          refine Tri.skip ?_
          refine ⟨rfl, ?_, ?_⟩
          · rw [h3']; rfl
          · rw [h3']; exact .cons rfl (ObImp.refl _) .nil
      · skip
        repeat refine Tri.seq ?_
        refine Tri.region mixed ?_
        refine s_store SS ?_
        refine e_seq ?_
        repeat refine Tri.seq ?_
        exact Tri.ret ⟨.inr rfl, ret1 rfl resV_cell (iv_imp (by rw [haerr, hdone]; rfl)), by repeat (first | exact OutH.nil | refine OutH.cons rfl (by first | exact ObImp.refl _ | exact OWk.imp (by repeat constructor)) ?_)⟩
      · skip
        exact Tri.ret ⟨.inr rfl, ret1 rfl resV_cell (iv_imp (by rw [haerr, hz]; rfl)), .nil⟩
end Go.Proofs.YtkcgkignhpepkaaDoor

/- The checks of a term, and of a world and a term. -/
namespace Go.Proofs.YtkcgkignhpepkaaDoor
open Go Hs
variable {G : List (Nat × TypeId × Pu)}

def checkM (t : Tm) (depth members : Int) : Int := if (longT 300 60 1 0 t).1 then 11 else aerr members depth 0 t
theorem check_c (t : Tm) (hN : tsize t < 2^40) (depth members : Int) : FCall Tryd.prog G 63 [.pu (tmc 0 t), iv .i64 depth, iv .i64 members] (iv .i64 (checkM t depth members)) := by
  refine FCall.of_tri tbl 18 Tryd.func63 rfl rfl rfl fun w0 M ρ0 D0 => ?_
  repeat refine Tri.seq ?_
  refine Tri.region mixed ?_
  refine s_box SS 3 ?_
  refine s_box SS 901 ?_
  refine s_val (v_assign SS) ?_
  refine e_seqN [3, 901] ?_
  repeat refine Tri.seq ?_
  refine Tri.region mixed ?_
  first | refine s_val (v_lit0 SS) ?_ | refine s_val (v_litP SS) ?_ | refine s_val (v_litA SS) ?_
  refine s_box SS 90 ?_
  first | refine s_val (v_load SS) ?_ | refine s_val (v_loadp SS) ?_
  refine s_call (lgT_c _ t (Nat.le_refl _) hN 1 0 (by omega) (by omega)) ?_
  refine e_seqN [90] ?_
  repeat refine Tri.seq ?_
  refine Tri.cond rfl (fun h0 => ?_) (fun h0 => ?_)
  · skip
    repeat refine Tri.seq ?_
    refine Tri.region mixed ?_
    refine s_val (v_assign SS) ?_
    refine e_seq ?_
    repeat refine Tri.seq ?_
    exact Tri.ret ⟨.inr rfl, ret1 rfl resV_tmp (iv_imp (by simp [checkM, h0]))⟩
  · skip
    refine Tri.skip ?_
    repeat refine Tri.seq ?_
    refine Tri.region mixed ?_
    refine s_move SS ?_
    refine s_val (v_mkFnD SS) ?_
    first | refine s_val (v_litP SS) ?_ | refine s_val (v_litA SS) ?_
    refine s_alloc SS 7 ?_
    refine s_store SS ?_
    refine e_seqN [7] ?_
    repeat refine Tri.seq ?_
    refine Tri.region mixed ?_
    first | refine s_val (v_load SS) ?_ | refine s_val (v_loadp SS) ?_
    first | refine s_val (v_load SS) ?_ | refine s_val (v_loadp SS) ?_
    refine s_val (v_callO (fun _ => all_c members depth _ t (Nat.le_refl _) hN 0 (by omega) (by omega))) ?_
    first | refine s_assignOw ?_ | refine s_val (v_assign SS) ?_
    refine e_seq ?_
    repeat refine Tri.seq ?_
    exact Tri.ret ⟨.inr rfl, ret1 rfl resV_tmp (iv_imp (by simp [checkM, h0]))⟩

/-- A known term: its digest, its body. -/
abbrev KT := List Int × Tm
def ktP (x : KT) : Pu := .agg 71 [refP x.1, tmc 0 x.2]
def wdP (a b : Pu) (ts : List KT) : Pu := .agg 52 [a, b, .sl 0 71 (ts.map ktP)]
instance (x : KT) : TyV Tryd.prog 71 (.pu (ktP x)) := inferInstanceAs (TyV Tryd.prog 71 (.pu (.agg _ _)))
instance (a b : Pu) (ts : List KT) : TyV Tryd.prog 52 (.pu (wdP a b ts)) := inferInstanceAs (TyV Tryd.prog 52 (.pu (.agg _ _)))
theorem kt_get {ts : List KT} {i : Nat} (h : i < ts.length) : (ts.map ktP)[i]? = some (ktP ts[i]) := by simp [h]
theorem kts_wf {D : Nat → Nat → Prop} {w : World} : ∀ {ts : List KT} {cs : List (Nat × TypeId)} {x : List Value}, PRs Tryd.prog D w cs (ts.map ktP) x → ∀ x ∈ ts, x.1.length = 32
  | [], _, _, _, x, hx => by cases hx
  | t :: ts, _, _, h, x, hx => by
    obtain ⟨⟨_, h1⟩, _, _, h2⟩ := PRs_cons h
    rcases List.mem_cons.1 hx with rfl | hx
    · obtain ⟨_, h1⟩ := PR_agg h1
      obtain ⟨⟨_, h1⟩, _⟩ := PRs_cons h1
      exact ref_len h1
    · exact kts_wf h2 x hx
theorem wd_wf {D : Nat → Nat → Prop} {w : World} {a b : Pu} {ts : List KT} {x : List Value} (h : PR Tryd.prog D w (wdP a b ts) x) : ∀ x ∈ ts, x.1.length = 32 := by
  obtain ⟨_, h⟩ := PR_agg h
  obtain ⟨_, _, _, h⟩ := PRs_cons h
  obtain ⟨_, _, _, h⟩ := PRs_cons h
  obtain ⟨⟨_, h⟩, _⟩ := PRs_cons h
  obtain ⟨_, _, h⟩ := PR_sl h
  exact kts_wf h

/-- A map by digests. -/
def mapE (l : List (List Int × PV)) : List (Pu × PV) := l.map fun x => (refP x.1, x.2)
def lookS (s : List Int) : List (List Int × PV) → Option PV
  | [] => none
  | x :: l => if s = x.1 then some x.2 else lookS s l
theorem findE_none {s : List Int} (hs : s.length = 32) : ∀ {l : List (List Int × PV)} {i : Nat}, (∀ x ∈ l, x.1.length = 32) → lookS s l = none → findE Tryd.prog 23 (refP s) (mapE l) i = some none
  | [], _, _, _ => rfl
  | x :: l, i, h, hn => by
    simp only [lookS] at hn
    split at hn
    · cases hn
    · rename_i hne
      simp only [mapE, List.map_cons, findE, peq_ref (hs.trans (h x (by simp)).symm)]
      rw [show (s == x.1) = false by simpa using hne]
      exact findE_none hs (fun y hy => h y (by simp [hy])) hn
theorem findE_some {s : List Int} (hs : s.length = 32) : ∀ {l : List (List Int × PV)} {i : Nat} {v : PV}, (∀ x ∈ l, x.1.length = 32) → lookS s l = some v → ∃ j, findE Tryd.prog 23 (refP s) (mapE l) i = some (some (j, v))
  | [], _, _, _, h => by cases h
  | x :: l, i, v, h, hn => by
    simp only [lookS] at hn
    simp only [mapE, List.map_cons, findE, peq_ref (hs.trans (h x (by simp)).symm)]
    split at hn
    · rename_i he
      simp at hn
      rw [show (s == x.1) = true by simpa using he]
      exact ⟨i, by rw [hn]⟩
    · rename_i hne
      rw [show (s == x.1) = false by simpa using hne]
      exact findE_some hs (fun y hy => h y (by simp [hy])) hn
theorem mapGet_none {s : List Int} {V : TypeId} {z : PV} {l : List (List Int × PV)} (hz : SS.Z V = some z) (hs : s.length = 32) (h : ∀ x ∈ l, x.1.length = 32) (hn : lookS s l = none) : mapGet Tryd.prog SS 23 V (refP s) (mapE l) = some (z, false) := by
  unfold mapGet
  rw [findE_none hs h hn, hz]
theorem mapGet_some {s : List Int} {V : TypeId} {v : PV} {l : List (List Int × PV)} (hs : s.length = 32) (h : ∀ x ∈ l, x.1.length = 32) (hn : lookS s l = some v) : mapGet Tryd.prog SS 23 V (refP s) (mapE l) = some (v, true) := by
  unfold mapGet
  obtain ⟨j, hj⟩ := findE_some (i := 0) hs h hn
  rw [hj]
theorem mapE_ty (l : List (List Int × PV)) : ∀ q ∈ mapE l, tyP Tryd.prog 23 q.1 = true := by
  intro q hq
  obtain ⟨x, _, rfl⟩ := List.mem_map.1 hq
  exact (sum_cond x.1 x.1).2.2.1
theorem mapE_append (l : List (List Int × PV)) (s : List Int) (v : PV) : mapE (l ++ [(s, v)]) = mapE l ++ [(refP s, v)] := by simp [mapE]

instance {V : TypeId} {α : Type} {l : List α} {f : α → List Int} {g : α → Pu} : NoLab (.map 23 V (mapE (l.map fun x => (f x, .pu (g x))))) := ⟨by
  have := (NoLab.map (K := 23) (V := V) (l := l) (f := fun x => refP (f x)) (g := fun x => .pu (g x)) (fun _ => rfl)).ok
  unfold mapE
  rw [List.map_map]
  exact this⟩
instance {K V : TypeId} {es : List (Pu × PV)} {k p : Pu} [h : NoLab (.map K V es)] : NoLab (.map K V (es ++ [(k, .pu p)])) := ⟨by
  have h1 : PV.labsL (es.map (·.2)) = [] := h.ok
  show PV.labsL ((es ++ [(k, PV.pu p)]).map (·.2)) = []
  rw [List.map_append]
  generalize es.map (·.2) = l at h1 ⊢
  induction l with
  | nil => rfl
  | cons a l ih => simp only [PV.labsL, List.append_eq_nil_iff, List.cons_append] at h1 ⊢; exact ⟨h1.1, ih h1.2⟩⟩
def metL (ts : List KT) : List (List Int × PV) := ts.map fun x => (x.1, bv true)
theorem look_met {s : List Int} : ∀ {ts : List KT}, lookS s (metL ts) = if s ∈ ts.map (·.1) then some (bv true) else none
  | [] => by simp [metL, lookS]
  | x :: ts => by
    have ih := look_met (s := s) (ts := ts)
    unfold metL at ih ⊢
    simp only [List.map_cons, lookS, ih, List.mem_cons]
    by_cases h : s = x.1
    · simp [h]
    · simp only [h, if_false, false_or]
instance {V : TypeId} {ts : List KT} : NoLab (.map 23 V (mapE (metL ts))) := inferInstanceAs (NoLab (.map 23 V (mapE (ts.map fun x => (x.1, .pu (.leaf (.bool true)))))))
theorem metL_take {ts : List KT} {i : Nat} (h : i < ts.length) : metL (ts.take (i + 1)) = metL (ts.take i) ++ [(ts[i].1, bv true)] := by
  unfold metL
  rw [List.take_succ_eq_append_getElem h, List.map_append]; rfl
theorem met_len {ts : List KT} (h : ∀ x ∈ ts, x.1.length = 32) : ∀ x ∈ metL ts, x.1.length = 32 := by
  intro x hx
  obtain ⟨y, hy, rfl⟩ := List.mem_map.1 hx
  exact h y hy

def dupM (ts : List KT) : Bool := !decide (ts.map (·.1)).Nodup
def stepCheckM (ts : List KT) (t : Tm) : Int := if decide ((ts.length : Int) > 40) then 2 else orE (firstE (fun x => checkM x.2 0 0) ts) (if dupM ts then 5 else checkM t 0 0)
theorem nodup_take {α : Type} {l : List α} {i : Nat} (h : i < l.length) : (l.take (i + 1)).Nodup ↔ (l.take i).Nodup ∧ l[i] ∉ l.take i := by
  rw [List.take_succ_eq_append_getElem h, List.nodup_append]
  simp only [List.nodup_cons, List.not_mem_nil, not_false_eq_true, List.nodup_nil, and_self, true_and, List.mem_singleton]
  exact ⟨fun ⟨h1, h2⟩ => ⟨h1, fun hm => h2 _ hm _ rfl rfl⟩, fun ⟨h1, h2⟩ => ⟨h1, fun a ha b hb e => h2 (by rw [← hb, ← e]; exact ha)⟩⟩

theorem stepCheck_c (a b : Pu) (ts : List KT) (t : Tm) (hts : ∀ x ∈ ts, tsize x.2 < 2^40) (hN : tsize t < 2^40) : FCall Tryd.prog G 50 [.pu (wdP a b ts), .pu (tmc 0 t)] (iv .i64 (stepCheckM ts t)) := by
  refine FCall.of_tri tbl 47 Tryd.func50 rfl rfl rfl fun w0 M ρ0 D0 => ?_
  refine Tri.fact (i := 0) rfl (fun D w x h => wd_wf h) (fun hr => ?_)
  repeat refine Tri.seq ?_
  refine Tri.region mixed ?_
  refine s_box SS 2 ?_
  refine s_box SS 3 ?_
  refine s_val (v_assign SS) ?_
  refine e_seqN [2, 3] ?_
  repeat refine Tri.seq ?_
  refine Tri.region mixed ?_
  first | refine s_val (v_field SS) ?_ | refine s_val (v_fieldp SS) ?_
  first | refine s_load SS ?_ | refine s_val (v_loadp SS) ?_
  first | refine s_val (v_len SS) ?_ | refine s_val (v_lenx SS) ?_ | refine s_val (v_len0 SS) ?_ | refine s_val (v_lena SS) ?_
  refine s_val (v_int SS) ?_
  refine e_seq ?_
  repeat refine Tri.seq ?_
  refine Tri.cond rfl (fun h0 => ?_) (fun h0 => ?_)
  · skip
    repeat refine Tri.seq ?_
    refine Tri.region mixed ?_
    refine s_val (v_assign SS) ?_
    refine e_seq ?_
    repeat refine Tri.seq ?_
    exact Tri.ret ⟨.inr rfl, ret1 rfl resV_tmp (iv_imp (by simp at h0; simp [stepCheckM, h0]))⟩
  · skip
    have hts40 : ¬ ((ts.length : Int) > 40) := by simpa using h0
    refine Tri.skip ?_
    repeat refine Tri.seq ?_
    refine Tri.region mixed ?_
    first | refine s_val (v_field SS) ?_ | refine s_val (v_fieldp SS) ?_
    first | refine s_load SS ?_ | refine s_val (v_loadp SS) ?_
    first | refine s_val (v_len SS) ?_ | refine s_val (v_lenx SS) ?_ | refine s_val (v_len0 SS) ?_ | refine s_val (v_lena SS) ?_
    refine s_val (v_move SS) ?_
    refine e_seq ?_
    repeat refine Tri.seq ?_
    refine Tri.block (Tri.loopW (σ := {i : Nat // firstE (fun x : KT => checkM x.2 0 0) (ts.take i) = 0}) (fun i => ⟨[(2, .ptr 2 [] 52), (3, .ptr 3 [] 30), (16, .pu (.sl 0 71 (ts.map ktP))), (17, iv .i64 (ts.map ktP).length), (18, iv .i64 i.1)], [(2, .var 52 (.pu (wdP a b ts))), (3, .var 30 (.pu (tmc 0 t)))]⟩) (fun i => ts.length - i.1) ⟨0, rfl⟩ ?_ ?_ (fun i => ?_))
    · repeat (first | exact .nil | refine .cons rfl (by first | exact .refl | (focus ((repeat constructor); done))) ?_)
    · repeat (first | exact .nil | refine .cons rfl (by first | exact .refl | (focus ((repeat constructor); done))) ?_)
    repeat refine Tri.seq ?_
    refine Tri.region mixed ?_
    refine s_val (v_int SS) ?_
    refine e_seq ?_
    repeat refine Tri.seq ?_
    refine Tri.cond rfl (fun h1 => ?_) (fun h1 => ?_)
    · skip
      have hi : i.1 < ts.length := by simpa using h1
      refine Tri.skip ?_
      repeat refine Tri.seq ?_
      refine Tri.block ?_
      repeat refine Tri.seq ?_
      refine Tri.region mixed ?_
      refine s_val (v_index SS (h0 := by omega) (hp := kt_get hi)) ?_
      first | refine s_val (v_load SS) ?_ | refine s_val (v_loadp SS) ?_
      refine s_alloc SS 6 ?_
      refine s_store SS ?_
      refine e_seqN [6] ?_
      repeat refine Tri.seq ?_
      refine Tri.region mixed ?_
      first | refine s_val (v_field SS) ?_ | refine s_val (v_fieldp SS) ?_
      first | refine s_val (v_load SS) ?_ | refine s_val (v_loadp SS) ?_
      refine s_val (v_callD (fun _ => check_c ts[i.1].2 (hts _ (List.getElem_mem hi)) 0 0)) ?_
      first | refine s_assignOw ?_ | refine s_val (v_assign SS) ?_
      refine e_seq ?_
      repeat refine Tri.seq ?_
      refine Tri.region mixed ?_
      refine s_move SS ?_
      refine s_val (v_int SS) ?_
      refine e_seq ?_
      repeat refine Tri.seq ?_
      refine Tri.cond rfl (fun h2 => ?_) (fun h2 => ?_)
      · skip
        have h2' : checkM ts[i.1].2 0 0 ≠ 0 := by simpa using h2
        have hf : firstE (fun x : KT => checkM x.2 0 0) (ts.take (i.1 + 1)) = checkM ts[i.1].2 0 0 := by rw [firstE_take _ hi, if_pos i.2]
        have hf2 := firstE_pre (fun x : KT => checkM x.2 0 0) (l := ts) (i := i.1 + 1) (by rw [hf]; exact h2')
        repeat refine Tri.seq ?_
        refine Tri.region mixed ?_
        refine s_move SS ?_
        first | refine s_assignOw ?_ | refine s_val (v_assign SS) ?_
        refine e_seq ?_
        repeat refine Tri.seq ?_
        exact Tri.ret ⟨.inr rfl, ret1 rfl resV_tmp (iv_imp (by simp [stepCheckM, hts40, orE, hf2, hf, h2']))⟩
      · skip
        have h2' : checkM ts[i.1].2 0 0 = 0 := by simpa using h2
        have hnext : firstE (fun x : KT => checkM x.2 0 0) (ts.take (i.1 + 1)) = 0 := by rw [firstE_take _ hi, if_pos i.2, h2']
        refine Tri.skip ?_
        repeat refine Tri.seq ?_
        refine Tri.region mixed ?_
        refine s_val (v_int SS) ?_
        refine s_move SS ?_
        refine e_seq ?_
        refine ⟨⟨i.1 + 1, hnext⟩, by show ts.length - (i.1 + 1) < ts.length - i.1; omega, le_of ?_ ?_⟩
        · repeat (first | exact SubE.nil | refine SubE.cons rfl (by first | rfl | (rw [wrap64 (by omega) (by omega)]; rfl)) ?_)
        · repeat (first | exact SubH.nil | refine SubH.cons rfl (by first | rfl | (rw [wrap64 (by omega) (by omega)]; rfl)) ?_)
    · skip
      have hz1 : firstE (fun x : KT => checkM x.2 0 0) ts = 0 := by have := i.2; rwa [List.take_of_length_le (by simp at h1; omega)] at this
      refine Tri.exit ?_
      repeat refine Tri.seq ?_
      refine Tri.region mixed ?_
      refine s_makeMap 29 ?_
      first | refine s_assignOw ?_ | refine s_val (v_assign SS) ?_
      refine e_seqN [29] ?_
      repeat refine Tri.seq ?_
      refine Tri.region mixed ?_
      first | refine s_val (v_field SS) ?_ | refine s_val (v_fieldp SS) ?_
      first | refine s_load SS ?_ | refine s_val (v_loadp SS) ?_
      first | refine s_val (v_len SS) ?_ | refine s_val (v_lenx SS) ?_ | refine s_val (v_len0 SS) ?_ | refine s_val (v_lena SS) ?_
      refine s_val (v_move SS) ?_
      refine e_seq ?_
      repeat refine Tri.seq ?_
      refine Tri.block (Tri.loopW (σ := {i : Nat // ((ts.take i).map (·.1)).Nodup}) (fun i => ⟨[(2, .ptr 2 [] 52), (3, .ptr 3 [] 30), (31, .pu (.sl 0 71 (ts.map ktP))), (32, iv .i64 (ts.map ktP).length), (33, iv .i64 i.1), (8, .mp 29 23 4)], [(2, .var 52 (.pu (wdP a b ts))), (3, .var 30 (.pu (tmc 0 t))), (29, .map 23 4 (mapE (metL (ts.take i.1))))]⟩) (fun i => ts.length - i.1) ⟨0, by simp⟩ ?_ ?_ (fun i => ?_))
      · repeat (first | exact .nil | refine .cons rfl (by first | exact .refl | (focus ((repeat constructor); done))) ?_)
      · repeat (first | exact .nil | refine .cons rfl (by first | exact .refl | (focus ((repeat constructor); done))) ?_)
      repeat refine Tri.seq ?_
      refine Tri.region mixed ?_
      refine s_val (v_int SS) ?_
      refine e_seq ?_
      repeat refine Tri.seq ?_
      refine Tri.cond rfl (fun h3 => ?_) (fun h3 => ?_)
      · skip
        have hi : i.1 < ts.length := by simpa using h3
        have hr1 := hr _ (List.getElem_mem hi)
        have hr2 := met_len (fun x hx => hr x (List.mem_of_mem_take hx)) (ts := ts.take i.1)
        have hdup := nodup_take (l := ts.map (·.1)) (i := i.1) (by simpa using hi)
        rw [List.map_take.symm, List.map_take.symm, List.getElem_map] at hdup
        have hget : mapGet Tryd.prog SS 23 4 (refP ts[i.1].1) (mapE (metL (ts.take i.1))) = some (bv (decide (ts[i.1].1 ∈ (ts.take i.1).map (·.1))), decide (ts[i.1].1 ∈ (ts.take i.1).map (·.1))) := by
          by_cases hm : ts[i.1].1 ∈ (ts.take i.1).map (·.1)
          · rw [mapGet_some hr1 hr2 (by rw [look_met, if_pos hm]), decide_eq_true hm]
          · rw [mapGet_none (z := bv false) (by kernel_rfl) hr1 hr2 (by rw [look_met, if_neg hm]), decide_eq_false hm]
        refine Tri.skip ?_
        repeat refine Tri.seq ?_
        refine Tri.block ?_
        repeat refine Tri.seq ?_
        refine Tri.region mixed ?_
        refine s_val (v_index SS (h0 := by omega) (hp := kt_get hi)) ?_
        first | refine s_val (v_load SS) ?_ | refine s_val (v_loadp SS) ?_
        refine s_alloc SS 10 ?_
        refine s_store SS ?_
        refine e_seqN [10] ?_
        repeat refine Tri.seq ?_
        refine Tri.region mixed ?_
        refine s_move SS ?_
        first | refine s_val (v_field SS) ?_ | refine s_val (v_fieldp SS) ?_
        first | refine s_val (v_load SS) ?_ | refine s_val (v_loadp SS) ?_
        refine s_val (v_lookup SS rfl rfl rfl (VImp.refl _) (mapE_ty _) (sum_cond _ [] ).2.2.1 hget) ?_
        refine e_seq ?_
        repeat refine Tri.seq ?_
        refine Tri.cond rfl (fun h4 => ?_) (fun h4 => ?_)
        · skip
          have hm : ts[i.1].1 ∈ (ts.take i.1).map (·.1) := by simpa using h4
          have hnd : ¬ (ts.map (·.1)).Nodup := fun hn => by
            have h2 : ((ts.take (i.1 + 1)).map (·.1)).Nodup := by rw [List.map_take]; exact hn.sublist (List.take_sublist _ _)
            exact (hdup.1 h2).2 hm
          repeat refine Tri.seq ?_
          refine Tri.region mixed ?_
          refine s_val (v_assign SS) ?_
          refine e_seq ?_
          repeat refine Tri.seq ?_
          exact Tri.ret ⟨.inr rfl, ret1 rfl resV_tmp (iv_imp (by simp [stepCheckM, hts40, orE, hz1, dupM, hnd]))⟩
        · skip
          have hm : ts[i.1].1 ∉ (ts.take i.1).map (·.1) := by simpa using h4
          have hnone : lookS ts[i.1].1 (metL (ts.take i.1)) = none := by rw [look_met, if_neg hm]
          have hnext : ((ts.take (i.1 + 1)).map (·.1)).Nodup := hdup.2 ⟨i.2, hm⟩
          refine Tri.skip ?_
          repeat refine Tri.seq ?_
          refine Tri.region mixed ?_
          refine s_move SS ?_
          first | refine s_val (v_field SS) ?_ | refine s_val (v_fieldp SS) ?_
          first | refine s_val (v_load SS) ?_ | refine s_val (v_loadp SS) ?_
          refine step_insert SS (u := bv true) rfl rfl rfl rfl (VImp.refl _) rfl (VImp.refl _) rfl (mapE_ty _) (sum_cond _ [] ).2.2.1 (findE_none hr1 hr2 hnone) (labs := []) (fun l' h => by rw [NoLab.ok] at h; exact h) ?_
          refine e_seq ?_
          repeat refine Tri.seq ?_
          refine Tri.region mixed ?_
          refine s_val (v_int SS) ?_
          refine s_move SS ?_
          refine e_seq ?_
          refine ⟨⟨i.1 + 1, hnext⟩, by show ts.length - (i.1 + 1) < ts.length - i.1; omega, le_of ?_ ?_⟩
          · repeat (first | exact SubE.nil | refine SubE.cons rfl (by first | rfl | (rw [wrap64 (by omega) (by omega)]; rfl) | (simp only [metL_take hi, mapE_append])) ?_)
          · repeat (first | exact SubH.nil | refine SubH.cons rfl (by first | rfl | (rw [wrap64 (by omega) (by omega)]; rfl) | (simp only [metL_take hi, mapE_append])) ?_)
      · skip
        have hnd : (ts.map (·.1)).Nodup := by have := i.2; rwa [List.take_of_length_le (by simp at h3; omega)] at this
        refine Tri.exit ?_
        repeat refine Tri.seq ?_
        refine Tri.region mixed ?_
        first | refine s_val (v_load SS) ?_ | refine s_val (v_loadp SS) ?_
        refine s_val (v_callD (fun _ => check_c t hN 0 0)) ?_
        first | refine s_assignOw ?_ | refine s_val (v_assign SS) ?_
        refine e_seq ?_
        repeat refine Tri.seq ?_
        exact Tri.ret ⟨.inr rfl, ret1 rfl resV_tmp (iv_imp (by simp [stepCheckM, hts40, orE, hz1, dupM, hnd]))⟩
end Go.Proofs.YtkcgkignhpepkaaDoor

/- Patterns of one's own. -/
namespace Go.Proofs.YtkcgkignhpepkaaDoor
open Go Hs
variable {G : List (Nat × TypeId × Pu)}

theorem stepOwnPatternN_c : ∀ (N : Nat) (p : Pat), psize p ≤ N → N < 2^30 → FCallN Tryd.prog G 81 [.pu (patc 0 p)] (fun n => .pu (patc n p)) := by
  intro N
  induction N with
  | zero => intro p h; cases p; simp [psize] at h
  | succ N ih =>
  intro p hp hN
  obtain ⟨k, n, r, ks⟩ := p
  simp only [psize] at hp
  have hlen := length_psizeL ks
  refine FCallN.of_tri tbl 24 Tryd.func81 rfl rfl (fun _ => rfl) fun w0 M ρ0 D0 hM => ?_
  repeat refine Tri.seq ?_
  refine Tri.region mixed ?_
  refine s_box SS 1 ?_
  refine s_alloc SS 2 ?_
  refine e_seqN [1, 2] ?_
  repeat refine Tri.seq ?_
  refine Tri.region mixed ?_
  first | refine s_val (v_field SS) ?_ | refine s_val (v_fieldp SS) ?_
  first | refine s_load SS ?_ | refine s_val (v_loadp SS) ?_
  first | refine s_assignOw ?_ | refine s_val (v_assign SS) ?_
  refine e_seq ?_
  repeat refine Tri.seq ?_
  refine Tri.region mixed ?_
  first | refine s_val (v_field SS) ?_ | refine s_val (v_fieldp SS) ?_
  refine s_store SS ?_
  refine e_seq ?_
  repeat refine Tri.seq ?_
  refine Tri.region mixed ?_
  refine s_move SS ?_
  first | refine s_val (v_len SS) ?_ | refine s_val (v_lenx SS) ?_ | refine s_val (v_len0 SS) ?_ | refine s_val (v_lena SS) ?_
  refine s_val (v_move SS) ?_
  refine e_seq ?_
  refine Tri.ghost (Ghost.wk (env' := [(1, .ptr 1 [] 26), (2, .ptr 2 [] 26), (9, .pu (.sl 0 26 (patsc 0 ks))), (10, iv .i64 (patsc 0 ks).length), (11, iv .i64 0)])
    (heap' := [(1, .var 26 (.agg 26 [iv .i64 k, iv .i64 n, .pu (refP r), .ow w0.heap.size 26 []])), (2, .var 26 (.agg 26 [iv .i64 0, iv .i64 0, .pu (refP Z32), .nilc]))])
    (.cons rfl .refl (.cons rfl .refl (.cons rfl .refl (.cons rfl .refl (.cons rfl .refl .nil))))) (.cons rfl (.var (.agg (.cons .refl (.cons .refl (.cons .refl (.cons .nilcOw .nil)))))) (.cons rfl .refl .nil))) ?_
  repeat refine Tri.seq ?_
  refine Tri.block (Tri.loop (σ := Nat) (fun i => ⟨[(1, .ptr 1 [] 26), (2, .ptr 2 [] 26), (9, .pu (.sl 0 26 (patsc 0 ks))), (10, iv .i64 (patsc 0 ks).length), (11, iv .i64 i)],
    [(1, .var 26 (.agg 26 [iv .i64 k, iv .i64 n, .pu (refP r), .ow w0.heap.size 26 (patsc w0.heap.size (ks.take i))])), (2, .var 26 (.agg 26 [iv .i64 0, iv .i64 0, .pu (refP Z32), .nilc]))]⟩) (fun i => ks.length - i) 0 ?_ (fun i => ?_))
  · exact le_of (.cons rfl rfl (.cons rfl rfl (.cons rfl rfl (.cons rfl rfl (.cons rfl rfl .nil))))) (.cons rfl rfl (.cons rfl rfl .nil))
  repeat refine Tri.seq ?_
  refine Tri.region mixed ?_
  refine s_val (v_int SS) ?_
  refine e_seq ?_
  refine Tri.seq (Tri.cond rfl (fun hb => Tri.skip ?_) (fun hb => Tri.exit ?_))
  · have hi : i < ks.length := by simpa [pats_eq] using hb
    refine Tri.seq (Tri.block ?_)
    repeat refine Tri.seq ?_
    refine Tri.region mixed ?_
    refine s_val (v_index SS (h0 := by omega) (hp := pats_get hi)) ?_
    first | refine s_val (v_load SS) ?_ | refine s_val (v_loadp SS) ?_
    refine s_alloc SS 5 ?_
    refine s_store SS ?_
    refine e_seqN [5] ?_
    repeat refine Tri.seq ?_
    refine Tri.region mixed ?_
    first | refine s_val (v_field SS) ?_ | refine s_val (v_fieldp SS) ?_
    first | refine s_load SS ?_ | refine s_val (v_loadp SS) ?_
    first | refine s_val (v_load SS) ?_ | refine s_val (v_loadp SS) ?_
    refine s_val (v_callN (fun m n h => (patc_low h _).imp) (fun _ => ih ks[i] (by have := psizeL_get hi; omega) (by omega))) ?_
    refine s_sl SS ?_
    refine s_app2 1 [3] ?_ ?_
    · simp [pats_eq]; omega
    first | refine s_val (v_field SS) ?_ | refine s_val (v_fieldp SS) ?_
    first | refine s_storeOw SS ?_ | refine s_store SS ?_
    refine e_draw ?_
    repeat refine Tri.seq ?_
    refine Tri.region mixed ?_
    refine s_val (v_int SS) ?_
    refine s_move SS ?_
    refine e_seq ?_
    refine ⟨i + 1, by omega, le_of (.cons rfl rfl (.cons rfl rfl (.cons rfl rfl (.cons rfl rfl (.cons rfl ?_ .nil))))) (.cons rfl ?_ (.cons rfl rfl .nil))⟩
    · rw [wrap64 (by omega) (by omega)]
      rfl
    · have : patsc w0.heap.size (ks.take (i + 1)) = patsc w0.heap.size (ks.take i) ++ [patc w0.heap.size ks[i]] := by
        rw [pats_eq, pats_eq, List.take_succ_eq_append_getElem hi, List.map_append]; rfl
      rw [this]
      rfl
  have hi : ks.length ≤ i := by simpa [pats_eq] using hb
  repeat refine Tri.seq ?_
  refine Tri.region mixed ?_
  first | refine s_val (v_load SS) ?_ | refine s_val (v_loadp SS) ?_
  refine s_store SS ?_
  refine e_seq ?_
  refine Tri.ret ⟨.inr rfl, ret1 rfl resV_cell (ToPu.imp ?_)⟩
  rw [List.take_of_length_le hi]
  repeat constructor
end Go.Proofs.YtkcgkignhpepkaaDoor

/- Values. -/
namespace Go.Proofs.YtkcgkignhpepkaaDoor
open Go Hs
variable {G : List (Nat × TypeId × Pu)}

theorem anyS_pure {α : Type} (φ : α → Bool) (c : Int) : ∀ l : List α, anyS (fun c a => (φ a, c)) c l = (l.any φ, c)
  | [] => rfl
  | a :: l => by
    have ih := anyS_pure φ c l
    simp only [anyS, List.any_cons]
    cases φ a
    · simpa using ih
    · rfl

/-- A function without memory. -/
abbrev fV (f : FuncId) : PV := .pu (.leaf (.func (.func f) #[] #[]))

theorem every1_c (f : FuncId) (he : entersB Tryd.prog f = true) (x : Tm) (b : Bool) (h : FCall Tryd.prog G f [.pu (tmc 0 x)] (bv b)) :
    HCall Tryd.prog G 89 [.pu (tmc 0 x), .ptr 3 [] 31] [(3, .var 31 (fV f))] [] (bv (!b)) [] [] := by
  refine HCall.of_triD tbl 8 [3] Tryd.func89 rfl rfl rfl fun w0 M ρ0 D0 => ?_
  repeat refine Tri.seq ?_
  refine Tri.region mixed ?_
  refine s_box SS 31 ?_
  refine s_val (v_assign SS) ?_
  refine e_seqN [31] ?_
  repeat refine Tri.seq ?_
  refine Tri.region mixed ?_
  first | refine s_val (v_load SS) ?_ | refine s_val (v_loadp SS) ?_
  first | refine s_val (v_load SS) ?_ | refine s_val (v_loadp SS) ?_
  refine s_val (v_callO (fun _ => h) (he := he)) ?_
  refine s_val (v_not SS) ?_
  first | refine s_assignOw ?_ | refine s_val (v_assign SS) ?_
  refine e_seq ?_
  repeat refine Tri.seq ?_
  exact Tri.ret ⟨.inr rfl, ret1 rfl resV_tmp (VImp.refl _), by repeat (first | exact OutH.nil | refine OutH.cons rfl (by first | exact ObImp.refl _ | exact OWk.imp (by repeat constructor)) ?_)⟩

theorem every_c (f : FuncId) (he : entersB Tryd.prog f = true) (φ : Tm → Bool) (ks : List Tm) (hl : ks.length < 2^60) (h : ∀ x ∈ ks, FCall Tryd.prog G f [.pu (tmc 0 x)] (bv (φ x))) :
    FCall Tryd.prog G 66 [.pu (.sl 0 30 (tmsc 0 ks)), fV f] (bv (ks.all φ)) := by
  have hA : ∃ r : Option Nat, r.isSome = !(ks.all φ) ∧ AnyC Tryd.prog G 89 [] [.ptr 3 [] 31] [(3, .var 31 (fV f))] (tmsc 0 ks) [] r [] := by
    have := AnyC.state (P := Tryd.prog) (G := G) (f := 89) (first := []) (captured := [.ptr 3 [] 31]) (HR := [(3, .var 31 (fV f))]) (tmc 0) (fun c a => (!φ a, c)) (fun _ => []) (fun _ => True) (fun _ => rfl) ks (fun a ha c _ => ⟨every1_c f he a (φ a) (h a ha), fun _ => trivial⟩) 0 trivial
    rw [anyS_pure] at this
    obtain ⟨r, h1, h2⟩ := this
    refine ⟨r, by rw [h1, List.not_all_eq_any_not], ?_⟩
    rw [tms_eq]; exact h2
  obtain ⟨r, hr, hA⟩ := hA
  refine FCall.of_tri tbl 9 Tryd.func66 rfl rfl rfl fun w0 M ρ0 D0 => ?_
  repeat refine Tri.seq ?_
  refine Tri.region mixed ?_
  refine s_box SS 3 ?_
  refine s_val (v_assign SS) ?_
  refine e_seqN [3] ?_
  repeat refine Tri.seq ?_
  refine Tri.region mixed ?_
  refine s_move SS ?_
  refine s_val (v_mkFnD SS) ?_
  refine s_call (conTm_d (lo := 0) (.fn (.func 89) [] [.ptr 3 [] 31]) (by rw [tms_length]; omega) hA) ?_
  refine s_val (v_not SS) ?_
  first | refine s_assignOw ?_ | refine s_val (v_assign SS) ?_
  refine e_seq ?_
  repeat refine Tri.seq ?_
  exact Tri.ret ⟨.inr rfl, ret1 rfl resV_tmp (bv_imp (by rw [hr]; simp))⟩

mutual
def valM : Tm → Bool
  | .mk k _ _ ks _ => k == 2 || k == 3 || (k == 8 && valL ks)
def valL : List Tm → Bool
  | [] => true
  | t :: ts => valM t && valL ts
end
theorem valL_eq : ∀ ks, valL ks = ks.all valM
  | [] => rfl
  | t :: ts => by simp [valL, valL_eq ts]

theorem value_c : ∀ (N : Nat) (t : Tm), tsize t ≤ N → N < 2^40 → FCall Tryd.prog G 56 [.pu (tmc 0 t)] (bv (valM t)) := by
  intro N
  induction N with
  | zero => intro t h; have := tsize_pos t; omega
  | succ N ih =>
  intro t hp hN
  obtain ⟨k, n, r, ks, cs⟩ := t
  simp only [tsize] at hp
  have hlen := length_tsizeL ks
  refine FCall.of_tri tbl 21 Tryd.func56 rfl rfl rfl fun w0 M ρ0 D0 => ?_
  repeat refine Tri.seq ?_
  refine Tri.region mixed ?_
  refine s_box SS 1 ?_
  refine s_val (v_assign SS) ?_
  refine e_seqN [1] ?_
  repeat refine Tri.seq ?_
  refine Tri.region mixed ?_
  first | refine s_val (v_field SS) ?_ | refine s_val (v_fieldp SS) ?_
  first | refine s_val (v_load SS) ?_ | refine s_val (v_loadp SS) ?_
  refine s_val (v_int SS) ?_
  refine s_move SS ?_
  first | refine s_gg (by first | exact Guard.T rfl rfl rfl | exact Guard.F rfl rfl rfl | exact Guard.gT rfl rfl rfl | exact Guard.gF rfl rfl rfl) (v_field SS) ?_ | refine s_gg (by first | exact Guard.T rfl rfl rfl | exact Guard.F rfl rfl rfl | exact Guard.gT rfl rfl rfl | exact Guard.gF rfl rfl rfl) (v_fieldp SS) ?_
  first | refine s_gg (by first | exact Guard.T rfl rfl rfl | exact Guard.F rfl rfl rfl | exact Guard.gT rfl rfl rfl | exact Guard.gF rfl rfl rfl) (v_load SS) ?_ | refine s_gg (by first | exact Guard.T rfl rfl rfl | exact Guard.F rfl rfl rfl | exact Guard.gT rfl rfl rfl | exact Guard.gF rfl rfl rfl) (v_loadp SS) ?_
  refine s_gg (by first | exact Guard.T rfl rfl rfl | exact Guard.F rfl rfl rfl | exact Guard.gT rfl rfl rfl | exact Guard.gF rfl rfl rfl) (v_int SS) ?_
  refine s_val (v_or SS) ?_
  refine s_move SS ?_
  first | refine s_gg (by first | exact Guard.T rfl rfl rfl | exact Guard.F rfl rfl rfl | exact Guard.gT rfl rfl rfl | exact Guard.gF rfl rfl rfl) (v_field SS) ?_ | refine s_gg (by first | exact Guard.T rfl rfl rfl | exact Guard.F rfl rfl rfl | exact Guard.gT rfl rfl rfl | exact Guard.gF rfl rfl rfl) (v_fieldp SS) ?_
  first | refine s_gg (by first | exact Guard.T rfl rfl rfl | exact Guard.F rfl rfl rfl | exact Guard.gT rfl rfl rfl | exact Guard.gF rfl rfl rfl) (v_load SS) ?_ | refine s_gg (by first | exact Guard.T rfl rfl rfl | exact Guard.F rfl rfl rfl | exact Guard.gT rfl rfl rfl | exact Guard.gF rfl rfl rfl) (v_loadp SS) ?_
  refine s_gg (by first | exact Guard.T rfl rfl rfl | exact Guard.F rfl rfl rfl | exact Guard.gT rfl rfl rfl | exact Guard.gF rfl rfl rfl) (v_int SS) ?_
  refine s_gg (by first | exact Guard.T rfl rfl rfl | exact Guard.F rfl rfl rfl | exact Guard.gT rfl rfl rfl | exact Guard.gF rfl rfl rfl) (v_move SS) ?_
  first | refine s_gg (by first | exact Guard.T rfl rfl rfl | exact Guard.F rfl rfl rfl | exact Guard.gT rfl rfl rfl | exact Guard.gF rfl rfl rfl) (v_field SS) ?_ | refine s_gg (by first | exact Guard.T rfl rfl rfl | exact Guard.F rfl rfl rfl | exact Guard.gT rfl rfl rfl | exact Guard.gF rfl rfl rfl) (v_fieldp SS) ?_
  first | refine s_gg (by first | exact Guard.T rfl rfl rfl | exact Guard.F rfl rfl rfl | exact Guard.gT rfl rfl rfl | exact Guard.gF rfl rfl rfl) (v_load SS) ?_ | refine s_gg (by first | exact Guard.T rfl rfl rfl | exact Guard.F rfl rfl rfl | exact Guard.gT rfl rfl rfl | exact Guard.gF rfl rfl rfl) (v_loadp SS) ?_
  refine s_gg (by first | exact Guard.T rfl rfl rfl | exact Guard.F rfl rfl rfl | exact Guard.gT rfl rfl rfl | exact Guard.gF rfl rfl rfl) (v_callD (fun _ => every_c 56 (by kernel_rfl) valM ks (by omega) (fun x hx => ih x (by have := tsize_mem hx; omega) (by omega)))) ?_
  refine s_gg (by first | exact Guard.T rfl rfl rfl | exact Guard.F rfl rfl rfl | exact Guard.gT rfl rfl rfl | exact Guard.gF rfl rfl rfl) (v_andg SS) ?_
  refine s_val (v_or SS) ?_
  first | refine s_assignOw ?_ | refine s_val (v_assign SS) ?_
  refine e_seq ?_
  repeat refine Tri.seq ?_
  exact Tri.ret ⟨.inr rfl, ret1 rfl resV_tmp (bv_imp (by simp only [valM, valL_eq]))⟩
end Go.Proofs.YtkcgkignhpepkaaDoor

/- Values put for variables. -/
namespace Go.Proofs.YtkcgkignhpepkaaDoor
open Go Hs
variable {G : List (Nat × TypeId × Pu)}

mutual
def putM (vs : List Tm) (d : Int) : Tm → Tm
  | .mk k n r ks cs =>
    if hC : k = 1 ∧ 0 ≤ IntKind.wrap .i64 (n - d) ∧ 0 < vs.length then
      if h : IntKind.wrap .i64 (n - d) < vs.length then vs[vs.length - 1 - (IntKind.wrap .i64 (n - d)).toNat]'(by omega)
      else .mk k (IntKind.wrap .i64 (n - vs.length)) r (putK vs d k 0 ks) (putC vs d cs)
    else .mk k n r (putK vs d k 0 ks) (putC vs d cs)
def putK (vs : List Tm) (d k : Int) (i : Nat) : List Tm → List Tm
  | [] => []
  | t :: ts => putM vs (d + moreM k i) t :: putK vs d k (i + 1) ts
def putC (vs : List Tm) (d : Int) : List Cs → List Cs
  | [] => []
  | c :: cs => putS vs d c :: putC vs d cs
def putS (vs : List Tm) (d : Int) : Cs → Cs
  | .mk q t => .mk q (putM vs (d + bindsM q) t)
end
theorem putK_len (vs : List Tm) (d k : Int) : ∀ (ks : List Tm) (i : Nat), (putK vs d k i ks).length = ks.length
  | [], _ => rfl
  | t :: ts, i => by simp [putK, putK_len vs d k ts]
theorem putK_get (vs : List Tm) (d k : Int) : ∀ (ks : List Tm) (i j : Nat) (h : j < ks.length), (putK vs d k i ks)[j]'(by rw [putK_len]; exact h) = putM vs (d + moreM k ((i + j : Nat) : Int)) ks[j]
  | t :: ts, i, 0, _ => by simp [putK]
  | t :: ts, i, j + 1, h => by
    have := putK_get vs d k ts (i + 1) j (by simpa using h)
    simp only [putK, List.getElem_cons_succ, this]
    rw [show i + 1 + j = i + (j + 1) by omega]
theorem putC_len (vs : List Tm) (d : Int) : ∀ (cs : List Cs), (putC vs d cs).length = cs.length
  | [] => rfl
  | t :: ts => by simp [putC, putC_len vs d ts]
theorem putC_get (vs : List Tm) (d : Int) : ∀ (cs : List Cs) (j : Nat) (h : j < cs.length), (putC vs d cs)[j]'(by rw [putC_len]; exact h) = putS vs d cs[j]
  | t :: ts, 0, _ => by simp [putC]
  | t :: ts, j + 1, h => by simpa [putC] using putC_get vs d ts j (by simpa using h)

/-- A row on its way: so many elements are new. -/
def rowM (lo : Nat) (out ks : List Tm) (i : Nat) : List PV := ((out.take i).map (tmc lo) ++ (ks.drop i).map (tmc 0)).map .pu
theorem rowM_zero (lo : Nat) (out ks : List Tm) : rowM lo out ks 0 = (tmsc 0 ks).map .pu := by simp [rowM, tms_eq]
theorem rowM_all (lo : Nat) (out ks : List Tm) (h : out.length = ks.length) {i : Nat} (hi : ks.length ≤ i) : rowM lo out ks i = (tmsc lo out).map .pu := by
  simp [rowM, tms_eq, List.take_of_length_le (show out.length ≤ i by omega), List.drop_of_length_le hi]
theorem rowM_get (lo : Nat) (out ks : List Tm) (h : out.length = ks.length) {i : Nat} (hi : i < ks.length) : (rowM lo out ks i)[i]? = some (.pu (tmc 0 ks[i])) := by
  unfold rowM
  rw [List.getElem?_map, List.getElem?_append_right (by simp; omega)]
  simp [List.length_take, Nat.min_eq_left (show i ≤ out.length by omega), hi]
theorem rowM_set (lo : Nat) (out ks : List Tm) (h : out.length = ks.length) {i : Nat} (hi : i < ks.length) : (rowM lo out ks i).set i (.pu (tmc lo (out[i]'(by omega)))) = rowM lo out ks (i + 1) := by
  unfold rowM
  have e1 : ks.drop i = ks[i] :: ks.drop (i + 1) := List.drop_eq_getElem_cons hi
  rw [List.take_succ_eq_append_getElem (show i < out.length by omega), e1]
  simp only [List.map_append, List.map_cons, List.map_nil, List.append_assoc, List.cons_append, List.nil_append, List.map_take, List.map_drop]
  rw [List.set_append_right _ _ (by simp; omega)]
  simp [List.length_take, Nat.min_eq_left (show i ≤ out.length by omega)]

instance {lo : Nat} {out ks : List Tm} {i : Nat} : NoLab (.row 30 (rowM lo out ks i)) := NoLab.row (f := id)
theorem more_b (k : Int) (i : Int) : 0 ≤ moreM k i ∧ moreM k i ≤ 2 := by unfold moreM; split <;> (try split) <;> simp

set_option maxHeartbeats 1000000 in
theorem put_c' (vs : List Tm) (hvl : vs.length < 2^30) (hvs : ∀ v ∈ vs, FCallN Tryd.prog G 62 [.pu (tmc 0 v), iv .i64 0, .pu (.sl 0 30 [])] (fun m => .pu (tmc m v))) : ∀ (N : Nat) (t : Tm), tsize t ≤ N → N < 2^30 → ∀ d : Int, 0 ≤ d → d + 2 * tsize t ≤ 2^42 →
    FCallN Tryd.prog G 62 [.pu (tmc 0 t), iv .i64 d, .pu (.sl 0 30 (tmsc 0 vs))] (fun m => .pu (tmc m (putM vs d t))) := by
  intro N
  induction N with
  | zero => intro t h; have := tsize_pos t; omega
  | succ N ih =>
  intro t hp hN d hd0 hd1
  obtain ⟨k, n, r, ks, cs⟩ := t
  simp only [tsize] at hp hd1
  have hlen := length_tsizeL ks
  have hlenc := length_csizeL cs
  obtain ⟨out, hout⟩ : ∃ out, out = putK vs d k 0 ks := ⟨_, rfl⟩
  have houtl : out.length = ks.length := by rw [hout, putK_len]
  refine FCallN.of_tri tbl 109 Tryd.func62 rfl rfl (fun _ => rfl) fun w0 M ρ0 D0 hM => ?_
  repeat refine Tri.seq ?_
  refine Tri.region mixed ?_
  refine s_box SS 3 ?_
  refine s_alloc SS 6 ?_
  refine e_seqN [3, 6] ?_
  repeat refine Tri.seq ?_
  refine Tri.region mixed ?_
  first | refine s_val (v_field SS) ?_ | refine s_val (v_fieldp SS) ?_
  first | refine s_val (v_load SS) ?_ | refine s_val (v_loadp SS) ?_
  refine s_move SS ?_
  refine s_val (v_int SS) ?_
  first | refine s_assignOw ?_ | refine s_val (v_assign SS) ?_
  refine e_seq ?_
  repeat refine Tri.seq ?_
  refine Tri.region mixed ?_
  first | refine s_val (v_field SS) ?_ | refine s_val (v_fieldp SS) ?_
  first | refine s_val (v_load SS) ?_ | refine s_val (v_loadp SS) ?_
  refine s_val (v_int SS) ?_
  refine s_move SS ?_
  refine s_gg (by first | exact Guard.T rfl rfl rfl | exact Guard.F rfl rfl rfl | exact Guard.gT rfl rfl rfl | exact Guard.gF rfl rfl rfl) (v_move SS) ?_
  refine s_gg (by first | exact Guard.T rfl rfl rfl | exact Guard.F rfl rfl rfl | exact Guard.gT rfl rfl rfl | exact Guard.gF rfl rfl rfl) (v_int SS) ?_
  refine s_val (v_and SS) ?_
  refine s_move SS ?_
  refine s_gg (by first | exact Guard.T rfl rfl rfl | exact Guard.F rfl rfl rfl | exact Guard.gT rfl rfl rfl | exact Guard.gF rfl rfl rfl) (v_move SS) ?_
  first | refine s_gg (by first | exact Guard.T rfl rfl rfl | exact Guard.F rfl rfl rfl | exact Guard.gT rfl rfl rfl | exact Guard.gF rfl rfl rfl) (v_len SS) ?_ | refine s_gg (by first | exact Guard.T rfl rfl rfl | exact Guard.F rfl rfl rfl | exact Guard.gT rfl rfl rfl | exact Guard.gF rfl rfl rfl) (v_lenx SS) ?_ | refine s_gg (by first | exact Guard.T rfl rfl rfl | exact Guard.F rfl rfl rfl | exact Guard.gT rfl rfl rfl | exact Guard.gF rfl rfl rfl) (v_len0 SS) ?_ | refine s_gg (by first | exact Guard.T rfl rfl rfl | exact Guard.F rfl rfl rfl | exact Guard.gT rfl rfl rfl | exact Guard.gF rfl rfl rfl) (v_lena SS) ?_
  refine s_gg (by first | exact Guard.T rfl rfl rfl | exact Guard.F rfl rfl rfl | exact Guard.gT rfl rfl rfl | exact Guard.gF rfl rfl rfl) (v_int SS) ?_
  refine s_val (v_and SS) ?_
  refine e_seq ?_
  repeat refine Tri.seq ?_
  refine Tri.cutW (σ := {n' : Int // putM vs d (.mk k n r ks cs) = .mk k n' r (putK vs d k 0 ks) (putC vs d cs)}) (fun n' => ⟨[(1, iv .i64 d), (2, .pu (.sl 0 30 (tmsc 0 vs))), (3, .ptr 3 [] 30), (6, .ptr 6 [] 30)], [(3, .var 30 (.pu (tmc 0 (.mk k n'.1 r ks cs)))), (6, .var 30 (.agg 30 [iv .i64 0, iv .i64 0, .pu (refP Z32), .nilc, .nilc]))]⟩) ?_ (fun n' => ?_)
  · skip
    repeat refine Tri.seq ?_
    refine Tri.cond rfl (fun h0 => ?_) (fun h0 => ?_)
    · skip
      have hC : k = 1 ∧ 0 ≤ IntKind.wrap .i64 (n - d) ∧ 0 < vs.length := by rw [tms_length] at h0; simp at h0; omega
      obtain ⟨m, hm⟩ : ∃ m, m = IntKind.wrap .i64 (n - d) := ⟨_, rfl⟩
      rw [← hm] at hC
      repeat refine Tri.seq ?_
      refine Tri.region mixed ?_
      refine s_move SS ?_
      refine s_move SS ?_
      first | refine s_val (v_len SS) ?_ | refine s_val (v_lenx SS) ?_ | refine s_val (v_len0 SS) ?_ | refine s_val (v_lena SS) ?_
      refine s_val (v_int SS) ?_
      refine e_seq ?_
      repeat refine Tri.seq ?_
      refine Tri.cond rfl (fun h1 => ?_) (fun h1 => ?_)
      · skip
        have h1' : IntKind.wrap .i64 (n - d) < vs.length := by rw [tms_length] at h1; simpa using h1
        rw [← hm] at h1'
        have hj : vs.length - 1 - m.toNat < vs.length := by omega
        have hidx : IntKind.wrap .i64 (IntKind.wrap .i64 (((tmsc 0 vs).length : Int) - 1) - IntKind.wrap .i64 (n - d)) = ((vs.length - 1 - m.toNat : Nat) : Int) := by
          rw [← hm, tms_length, wrap64 (n := (vs.length : Int) - 1) (by omega) (by omega), wrap64 (by omega) (by omega)]; omega
        have hput : putM vs d (.mk k n r ks cs) = vs[vs.length - 1 - m.toNat] := by
          simp only [putM, ← hm]; rw [dif_pos hC, dif_pos h1']
        repeat refine Tri.seq ?_
        refine Tri.region mixed ?_
        refine s_move SS ?_
        refine s_move SS ?_
        first | refine s_val (v_len SS) ?_ | refine s_val (v_lenx SS) ?_ | refine s_val (v_len0 SS) ?_ | refine s_val (v_lena SS) ?_
        refine s_val (v_int SS) ?_
        refine s_move SS ?_
        refine s_val (v_int SS) ?_
        refine s_val (v_index SS (h0 := by rw [hidx]; omega) (hp := by rw [hidx]; exact tms_get hj)) ?_
        first | refine s_val (v_load SS) ?_ | refine s_val (v_loadp SS) ?_
        refine s_val (v_callN (fun m n h => (tmc_low h _).imp) (fun _ => hvs _ (List.getElem_mem hj))) ?_
        refine s_store SS ?_
        refine e_seq ?_
        repeat refine Tri.seq ?_
        exact Tri.ret ⟨.inr rfl, ret1 rfl resV_cell (VImp.of_eq (by rw [hput]))⟩
      · skip
        have h1' : ¬ IntKind.wrap .i64 (n - d) < vs.length := by rw [tms_length] at h1; simpa using h1
        have hput : putM vs d (.mk k n r ks cs) = .mk k (IntKind.wrap .i64 (n - (tmsc 0 vs).length)) r (putK vs d k 0 ks) (putC vs d cs) := by
          rw [hm] at hC
          simp only [putM]; rw [dif_pos hC, dif_neg h1', tms_length]
        refine Tri.skip ?_
        repeat refine Tri.seq ?_
        refine Tri.region mixed ?_
        first | refine s_val (v_field SS) ?_ | refine s_val (v_fieldp SS) ?_
        first | refine s_val (v_load SS) ?_ | refine s_val (v_loadp SS) ?_
        refine s_move SS ?_
        first | refine s_val (v_len SS) ?_ | refine s_val (v_lenx SS) ?_ | refine s_val (v_len0 SS) ?_ | refine s_val (v_lena SS) ?_
        refine s_val (v_int SS) ?_
        first | refine s_val (v_field SS) ?_ | refine s_val (v_fieldp SS) ?_
        refine s_store SS ?_
        refine e_seq ?_
        refine ⟨⟨_, hput⟩, ?_, ?_⟩
        · repeat (first | exact .nil | refine .cons rfl (by first | exact .refl | (focus ((repeat constructor); done))) ?_)
        · repeat (first | exact .nil | refine .cons rfl (by first | exact .refl | (focus ((repeat constructor); done))) ?_)
    · skip
      have hC : ¬ (k = 1 ∧ 0 ≤ IntKind.wrap .i64 (n - d) ∧ 0 < vs.length) := fun hC => by
        obtain ⟨a, b, c⟩ := hC
        have c' : (0 : Int) < vs.length := by omega
        rw [tms_length] at h0
        simp [a, b, c'] at h0
        try (rw [h0] at c; simp at c)
      have hput : putM vs d (.mk k n r ks cs) = .mk k n r (putK vs d k 0 ks) (putC vs d cs) := by
        simp only [putM]; rw [dif_neg hC]
      refine Tri.skip ?_
      refine ⟨⟨_, hput⟩, ?_, ?_⟩
      · repeat (first | exact .nil | refine .cons rfl (by first | exact .refl | (focus ((repeat constructor); done))) ?_)
      · repeat (first | exact .nil | refine .cons rfl (by first | exact .refl | (focus ((repeat constructor); done))) ?_)
  · skip
    obtain ⟨n', hput⟩ := n'
    repeat refine Tri.seq ?_
    refine Tri.region mixed ?_
    first | refine s_val (v_field SS) ?_ | refine s_val (v_fieldp SS) ?_
    first | refine s_load SS ?_ | refine s_val (v_loadp SS) ?_
    first | refine s_val (v_field SS) ?_ | refine s_val (v_fieldp SS) ?_
    first | refine s_load SS ?_ | refine s_val (v_loadp SS) ?_
    first | refine s_assignOw ?_ | refine s_val (v_assign SS) ?_
    first | refine s_assignOw ?_ | refine s_val (v_assign SS) ?_
    refine e_draw ?_
    repeat refine Tri.seq ?_
    refine Tri.region mixed ?_
    refine s_move SS ?_
    first | refine s_val (v_len SS) ?_ | refine s_val (v_lenx SS) ?_ | refine s_val (v_len0 SS) ?_ | refine s_val (v_lena SS) ?_
    refine s_make SS (n := (tmsc 0 ks).length) 55 (by rw [tms_length]; omega) (by rw [tms_length]; omega) ?_
    first | refine s_val (v_field SS) ?_ | refine s_val (v_fieldp SS) ?_
    first | refine s_storeOw SS ?_ | refine s_store SS ?_
    first | refine s_val (v_field SS) ?_ | refine s_val (v_fieldp SS) ?_
    refine s_store SS ?_
    refine e_seqN [55] ?_
    repeat refine Tri.seq ?_
    refine Tri.region mixed ?_
    first | refine s_val (v_field SS) ?_ | refine s_val (v_fieldp SS) ?_
    first | refine s_load SS ?_ | refine s_val (v_loadp SS) ?_
    refine s_move SS ?_
    refine s_copy SS ?_
    refine e_seq ?_
    repeat refine Tri.seq ?_
    refine Tri.region mixed ?_
    refine s_move SS ?_
    first | refine s_val (v_len SS) ?_ | refine s_val (v_lenx SS) ?_ | refine s_val (v_len0 SS) ?_ | refine s_val (v_lena SS) ?_
    refine s_val (v_move SS) ?_
    refine e_seq ?_
    rw [← rowM_zero w0.heap.size out ks]
    repeat refine Tri.seq ?_
    refine Tri.block (Tri.loopW (σ := Nat) (fun i => ⟨[(1, iv .i64 d), (2, .pu (.sl 0 30 (tmsc 0 vs))), (3, .ptr 3 [] 30), (6, .ptr 6 [] 30), (9, .pu (.sl 0 34 (cssc 0 cs))), (62, .pu (.sl 0 30 (tmsc 0 ks))), (63, iv .i64 (tmsc 0 ks).length), (64, iv .i64 i)], [(3, .var 30 (.agg 30 [iv .i64 k, iv .i64 n', .pu (refP r), .arr 55 30 0 (tmsc 0 ks).length, .nilc])), (6, .var 30 (.agg 30 [iv .i64 0, iv .i64 0, .pu (refP Z32), .nilc, .nilc])), (55, .row 30 (rowM w0.heap.size out ks i))]⟩) (fun i => ks.length - i) 0 ?_ ?_ (fun i => ?_))
    · repeat (first | exact .nil | refine .cons rfl (by first | exact .refl | (focus ((repeat constructor); done))) ?_)
    · repeat (first | exact .nil | refine .cons rfl (by first | exact .refl | (focus ((repeat constructor); done))) ?_)
    repeat refine Tri.seq ?_
    refine Tri.region mixed ?_
    refine s_val (v_int SS) ?_
    refine e_seq ?_
    repeat refine Tri.seq ?_
    refine Tri.cond rfl (fun h2 => ?_) (fun h2 => ?_)
    · skip
      have hlt : i < (tmsc 0 ks).length := by simpa using h2
      have hi : i < ks.length := by rwa [tms_length] at hlt
      have hmo := more_b k i
      have hsz := tsize_mem (List.getElem_mem hi)
      have hrow := rowM_set w0.heap.size out ks houtl hi
      have hel : out[i]'(by omega) = putM vs (d + moreM k i) ks[i] := by
        have := putK_get vs d k ks 0 i hi
        rw [Nat.zero_add] at this
        rw [← this]; congr 1
      rw [hel] at hrow
      refine Tri.skip ?_
      repeat refine Tri.seq ?_
      refine Tri.block ?_
      repeat refine Tri.seq ?_
      refine Tri.region mixed ?_
      refine s_move SS ?_
      refine s_val (v_index SS (h0 := by omega) (hp := tms_get hi)) ?_
      first | refine s_val (v_load SS) ?_ | refine s_val (v_loadp SS) ?_
      refine s_alloc SS 11 ?_
      first | refine s_assignOw ?_ | refine s_val (v_assign SS) ?_
      refine s_store SS ?_
      refine e_seqN [11] ?_
      repeat refine Tri.seq ?_
      refine Tri.region mixed ?_
      first | refine s_val (v_field SS) ?_ | refine s_val (v_fieldp SS) ?_
      first | refine s_load SS ?_ | refine s_val (v_loadp SS) ?_
      refine s_move SS ?_
      first | refine s_val (v_load SS) ?_ | refine s_val (v_loadp SS) ?_
      refine s_move SS ?_
      first | refine s_val (v_field SS) ?_ | refine s_val (v_fieldp SS) ?_
      first | refine s_val (v_load SS) ?_ | refine s_val (v_loadp SS) ?_
      refine s_move SS ?_
      refine s_val (v_callD (fun _ => stepMore_c k i)) ?_
      refine s_val (v_int SS) ?_
      refine s_move SS ?_
      refine s_val (v_callN (fun m n h => (tmc_low h _).imp) (fun _ => ih ks[i] (by omega) (by omega) (d + moreM k i) (by omega) (by omega))) ?_
      refine s_val (v_ixa SS) ?_
      refine s_storeR SS (rowM_get w0.heap.size out ks houtl hi) ?_
      refine e_draw ?_
      repeat refine Tri.seq ?_
      refine Tri.region mixed ?_
      refine s_val (v_int SS) ?_
      refine s_move SS ?_
      refine e_seq ?_
      refine ⟨i + 1, by omega, le_of ?_ ?_⟩
      · repeat (first | exact SubE.nil | refine SubE.cons rfl (by first | rfl | (rw [wrap64 (by omega) (by omega)]; rfl) | (simp only [← hrow])) ?_)
      · repeat (first | exact SubH.nil | refine SubH.cons rfl (by first | rfl | (rw [wrap64 (by omega) (by omega)]; rfl) | (simp only [← hrow])) ?_)
    · skip
      have hi : ks.length ≤ i := by rw [tms_length] at h2; simpa using h2
      rw [rowM_all _ _ _ houtl hi]
      refine Tri.exit ?_
      refine Tri.freeze (lo := w0.heap.size) (l := 55) (E := 30) (ps := tmsc w0.heap.size out) (env' := [(1, iv .i64 d), (2, .pu (.sl 0 30 (tmsc 0 vs))), (3, .ptr 3 [] 30), (6, .ptr 6 [] 30), (9, .pu (.sl 0 34 (cssc 0 cs)))]) (heap' := [(3, .var 30 (.agg 30 [iv .i64 k, iv .i64 n', .pu (refP r), .pu (.sl w0.heap.size 30 (tmsc w0.heap.size out)), .nilc])), (6, .var 30 (.agg 30 [iv .i64 0, iv .i64 0, .pu (refP Z32), .nilc, .nilc]))]) rfl (.inr ⟨Nat.le_refl _, hM⟩) ?_ (h2 := .cons rfl rfl (by simp [frzOb, frzV, frzL, tms_length, houtl]) (.cons rfl rfl rfl .nil))
      repeat refine Tri.seq ?_
      refine Tri.region mixed ?_
      refine s_move SS ?_
      first | refine s_val (v_len SS) ?_ | refine s_val (v_lenx SS) ?_ | refine s_val (v_len0 SS) ?_ | refine s_val (v_lena SS) ?_
      refine s_val (v_move SS) ?_
      refine e_seq ?_
      repeat refine Tri.seq ?_
      refine Tri.block (Tri.loopW (σ := Nat) (fun i => ⟨[(1, iv .i64 d), (2, .pu (.sl 0 30 (tmsc 0 vs))), (3, .ptr 3 [] 30), (6, .ptr 6 [] 30), (83, .pu (.sl 0 34 (cssc 0 cs))), (84, iv .i64 (cssc 0 cs).length), (85, iv .i64 i)], [(3, .var 30 (.agg 30 [iv .i64 k, iv .i64 n', .pu (refP r), .pu (.sl w0.heap.size 30 (tmsc w0.heap.size out)), .ow w0.heap.size 34 (cssc w0.heap.size ((putC vs d cs).take i))])), (6, .var 30 (.agg 30 [iv .i64 0, iv .i64 0, .pu (refP Z32), .nilc, .nilc]))]⟩) (fun i => cs.length - i) 0 ?_ ?_ (fun i => ?_))
      · repeat (first | exact .nil | refine .cons rfl (by first | exact .refl | (focus ((repeat constructor); done))) ?_)
      · repeat (first | exact .nil | refine .cons rfl (by first | exact .refl | (focus ((repeat constructor); done))) ?_)
      repeat refine Tri.seq ?_
      refine Tri.region mixed ?_
      refine s_val (v_int SS) ?_
      refine e_seq ?_
      repeat refine Tri.seq ?_
      refine Tri.cond rfl (fun h3 => ?_) (fun h3 => ?_)
      · skip
        have hi : i < cs.length := by rw [css_length] at h3; simpa using h3
        have hsz := csize_mem (List.getElem_mem hi)
        have hget := css_get (lo := 0) hi
        have hpc := putC_get vs d cs i hi
        generalize hci : cs[i] = ci at hget hsz hpc
        obtain ⟨q, b⟩ := ci
        simp only [csize] at hsz
        have hbb := binds_bound q
        have hcs : cssc w0.heap.size ((putC vs d cs).take (i + 1)) = cssc w0.heap.size ((putC vs d cs).take i) ++ [csec w0.heap.size (.mk q (putM vs (d + bindsM q) b))] := by
          rw [css_eq, css_eq, List.take_succ_eq_append_getElem (by rw [putC_len]; exact hi), List.map_append, hpc]; rfl
        refine Tri.skip ?_
        repeat refine Tri.seq ?_
        refine Tri.block ?_
        repeat refine Tri.seq ?_
        refine Tri.region mixed ?_
        refine s_val (v_index SS (h0 := by omega) (hp := hget)) ?_
        first | refine s_val (v_load SS) ?_ | refine s_val (v_loadp SS) ?_
        refine s_alloc SS 13 ?_
        refine s_store SS ?_
        refine e_seqN [13] ?_
        repeat refine Tri.seq ?_
        refine Tri.region mixed ?_
        first | refine s_val (v_field SS) ?_ | refine s_val (v_fieldp SS) ?_
        first | refine s_load SS ?_ | refine s_val (v_loadp SS) ?_
        first | refine s_val (v_field SS) ?_ | refine s_val (v_fieldp SS) ?_
        first | refine s_val (v_load SS) ?_ | refine s_val (v_loadp SS) ?_
        refine s_val (v_callN (fun m n h => (patc_low h _).imp) (fun _ => stepOwnPatternN_c _ q (Nat.le_refl _) (by omega))) ?_
        first | refine s_val (v_field SS) ?_ | refine s_val (v_fieldp SS) ?_
        first | refine s_val (v_load SS) ?_ | refine s_val (v_loadp SS) ?_
        refine s_move SS ?_
        first | refine s_val (v_field SS) ?_ | refine s_val (v_fieldp SS) ?_
        first | refine s_val (v_load SS) ?_ | refine s_val (v_loadp SS) ?_
        refine s_val (v_callD (fun _ => stepBinds_c _ q (Nat.le_refl _) (by omega))) ?_
        refine s_val (v_int SS) ?_
        refine s_move SS ?_
        refine s_val (v_callN (fun m n h => (tmc_low h _).imp) (fun _ => ih b (by omega) (by omega) (d + bindsM q) (by omega) (by omega))) ?_
        first | refine s_val (v_litP SS) ?_ | refine s_val (v_litA SS) ?_
        refine s_sl SS ?_
        refine s_app2 3 [4] ?_ ?_
        · simp [css_eq, putC_len]; omega
        first | refine s_val (v_field SS) ?_ | refine s_val (v_fieldp SS) ?_
        first | refine s_storeOw SS ?_ | refine s_store SS ?_
        refine e_draw ?_
        repeat refine Tri.seq ?_
        refine Tri.region mixed ?_
        refine s_val (v_int SS) ?_
        refine s_move SS ?_
        refine e_seq ?_
        refine ⟨i + 1, by omega, le_of ?_ ?_⟩
        · repeat (first | exact SubE.nil | refine SubE.cons rfl (by first | rfl | (rw [wrap64 (by omega) (by omega)]; rfl) | (rw [hcs]; rfl)) ?_)
        · repeat (first | exact SubH.nil | refine SubH.cons rfl (by first | rfl | (rw [wrap64 (by omega) (by omega)]; rfl) | (rw [hcs]; rfl)) ?_)
      · skip
        have hi : cs.length ≤ i := by rw [css_length] at h3; simpa using h3
        rw [List.take_of_length_le (by rw [putC_len]; exact hi)]
        refine Tri.exit ?_
        repeat refine Tri.seq ?_
        refine Tri.region mixed ?_
        first | refine s_val (v_load SS) ?_ | refine s_val (v_loadp SS) ?_
        refine s_store SS ?_
        refine e_seq ?_
        repeat refine Tri.seq ?_
        exact Tri.ret ⟨.inr rfl, ret1 rfl resV_cell ((by rw [hput, ← hout]; exact ToPu.imp (by repeat constructor)))⟩

mutual
theorem putM_nil (d : Int) : ∀ t : Tm, putM [] d t = t
  | .mk k n r ks cs => by
    simp only [putM, List.length_nil, Nat.lt_irrefl, and_false, dite_false]
    rw [putK_nil d k ks 0, putC_nil d cs]
theorem putK_nil (d k : Int) : ∀ (ks : List Tm) (i : Nat), putK [] d k i ks = ks
  | [], _ => rfl
  | t :: ts, i => by simp only [putK]; rw [putM_nil _ t, putK_nil d k ts (i + 1)]
theorem putC_nil (d : Int) : ∀ (cs : List Cs), putC [] d cs = cs
  | [] => rfl
  | c :: cs => by simp only [putC]; rw [putS_nil d c, putC_nil d cs]
theorem putS_nil (d : Int) : ∀ (c : Cs), putS [] d c = c
  | .mk q t => by simp only [putS]; rw [putM_nil _ t]
end
theorem put0_c (t : Tm) (h : tsize t < 2^30) : FCallN Tryd.prog G 62 [.pu (tmc 0 t), iv .i64 0, .pu (.sl 0 30 [])] (fun m => .pu (tmc m t)) := by
  have := put_c' (G := G) [] (by simp) (fun v hv => by cases hv) _ t (Nat.le_refl _) h 0 (by omega) (by omega)
  rwa [putM_nil] at this
theorem put_c (vs : List Tm) (hvl : vs.length < 2^30) (hvs : ∀ v ∈ vs, tsize v < 2^30) (t : Tm) (h : tsize t < 2^30) : FCallN Tryd.prog G 62 [.pu (tmc 0 t), iv .i64 0, .pu (.sl 0 30 (tmsc 0 vs))] (fun m => .pu (tmc m (putM vs 0 t))) :=
  put_c' vs hvl (fun v hv => put0_c v (hvs v hv)) _ t (Nat.le_refl _) h 0 (by omega) (by omega)

theorem own_c (t : Tm) (h : tsize t < 2^30) : FCallN Tryd.prog G 39 [.pu (tmc 0 t)] (fun m => .pu (tmc m t)) := by
  refine FCallN.of_tri tbl 5 Tryd.func39 rfl rfl (fun _ => rfl) fun w0 M ρ0 D0 hM => ?_
  repeat refine Tri.seq ?_
  refine Tri.region mixed ?_
  refine s_box SS 1 ?_
  refine s_alloc SS 2 ?_
  refine e_seqN [1, 2] ?_
  repeat refine Tri.seq ?_
  refine Tri.region mixed ?_
  first | refine s_val (v_load SS) ?_ | refine s_val (v_loadp SS) ?_
  refine s_val (v_callN (fun m n h => (tmc_low h _).imp) (fun _ => put0_c t h)) ?_
  refine s_store SS ?_
  refine e_seq ?_
  repeat refine Tri.seq ?_
  exact Tri.ret ⟨.inr rfl, ret1 rfl resV_cell (ToPu.imp (by repeat constructor))⟩
end Go.Proofs.YtkcgkignhpepkaaDoor

/- Patterns and terms. -/
namespace Go.Proofs.YtkcgkignhpepkaaDoor
open Go Hs
variable {G : List (Nat × TypeId × Pu)}

def Tm.kind : Tm → Int
  | .mk k _ _ _ _ => k
def Tm.num : Tm → Int
  | .mk _ n _ _ _ => n
def Tm.ref : Tm → List Int
  | .mk _ _ r _ _ => r
def Tm.kids : Tm → List Tm
  | .mk _ _ _ ks _ => ks
def Tm.cases : Tm → List Cs
  | .mk _ _ _ _ cs => cs
def fitAdd (a b : List Tm × Bool) : List Tm × Bool := if a.2 && b.2 then (a.1 ++ b.1, true) else ([], false)
mutual
def fitsM : Pat → Tm → List Tm × Bool
  | .mk k n r ks, v => if k = 1 then ([v], true) else if k = 2 then ([], v.kind == 2 && v.num == n)
    else if k = 3 then (if v.kind != 8 || !(v.ref == r) || v.num != n || ((v.kids.length : Int) != ks.length) then ([], false) else fitsL ks v.kids) else ([], false)
def fitsL : List Pat → List Tm → List Tm × Bool
  | [], _ => ([], true)
  | _ :: _, [] => ([], false)
  | p :: ps, v :: vs => fitAdd (fitsM p v) (fitsL ps vs)
end
mutual
theorem fits_b : ∀ (p : Pat) (v : Tm), (fitsM p v).1.length ≤ tsize v
  | .mk k n r ks, v => by
    have hv := tsize_pos v
    simp only [fitsM]
    split
    · simp; omega
    · split
      · simp
      · split
        · split
          · simp
          · have := fitsL_b ks v.kids
            obtain ⟨k', n', r', ks', cs'⟩ := v
            simp only [Tm.kids, tsize] at this ⊢
            omega
        · simp
theorem fitsL_b : ∀ (ps : List Pat) (vs : List Tm), (fitsL ps vs).1.length ≤ tsizeL vs
  | [], vs => by simp [fitsL]
  | _ :: _, [] => by simp [fitsL]
  | p :: ps, v :: vs => by
    have h1 := fits_b p v
    have h2 := fitsL_b ps vs
    simp only [fitsL, fitAdd, tsizeL]
    split
    · simp; omega
    · simp
end
theorem fitsL_take : ∀ {ps : List Pat} {vs : List Tm} {i : Nat} (h : i < ps.length) (h2 : i < vs.length), fitsL (ps.take (i + 1)) (vs.take (i + 1)) = fitAdd (fitsL (ps.take i) (vs.take i)) (fitsM ps[i] vs[i])
  | p :: ps, v :: vs, 0, _, _ => by
    simp only [List.take_zero, List.take_succ_cons, fitsL, List.getElem_cons_zero]
    rcases fitsM p v with ⟨l, b⟩
    cases b <;> simp [fitAdd]
  | p :: ps, v :: vs, i + 1, h, h2 => by
    have h' : i < ps.length := by simpa using h
    have h2' : i < vs.length := by simpa using h2
    have ih := fitsL_take (ps := ps) (vs := vs) (i := i) h' h2'
    simp only [List.take_succ_cons, fitsL, List.getElem_cons_succ, ih]
    rcases fitsM p v with ⟨l, b⟩
    rcases fitsL (ps.take i) (vs.take i) with ⟨l2, b2⟩
    rcases fitsM ps[i] vs[i] with ⟨l3, b3⟩
    cases b <;> cases b2 <;> cases b3 <;> simp [fitAdd]
theorem fitsL_stop : ∀ {ps : List Pat} {vs : List Tm} {i : Nat}, (fitsL (ps.take i) (vs.take i)).2 = false → fitsL ps vs = ([], false)
  | [], vs, i, h => by simp [fitsL] at h
  | p :: ps, vs, 0, h => by simp [fitsL] at h
  | p :: ps, [], i + 1, h => by simp [fitsL]
  | p :: ps, v :: vs, i + 1, h => by
    simp only [List.take_succ_cons, fitsL] at h ⊢
    rcases hpv : fitsM p v with ⟨l, b⟩
    rw [hpv] at h
    cases b
    · simp [fitAdd]
    · have : (fitsL (ps.take i) (vs.take i)).2 = false := by
        rcases hq : fitsL (ps.take i) (vs.take i) with ⟨l2, b2⟩
        cases b2
        · rfl
        · rw [hq] at h; revert h; simp only [fitAdd]; split <;> simp_all
      rw [fitsL_stop this]
      simp [fitAdd]

abbrev fitV (m : Nat) (x : List Tm × Bool) : PV := .tup [.pu (.sl m 30 (tmsc m x.1)), bv x.2]
theorem fitV_low {P : Program} {m n : Nat} (h : n ≤ m) (x : List Tm × Bool) : VImp P (fitV m x) (fitV n x) := VImps.tup (.cons (Low.imp (.sl h (tmsc_low h _))) (.cons (VImp.refl _) .nil)) (notTup rfl)

theorem fits_c : ∀ (N : Nat) (p : Pat), psize p ≤ N → ∀ (t : Tm), tsize t < 2^30 → FCallN Tryd.prog G 13 [.pu (patc 0 p), .pu (tmc 0 t)] (fun m => fitV m (fitsM p t)) := by
  intro N
  induction N with
  | zero => intro p h; cases p; simp [psize] at h
  | succ N ih =>
  intro p hp t hN
  obtain ⟨k, n, r, ks⟩ := p
  obtain ⟨k', n', r', ks', cs'⟩ := t
  simp only [psize] at hp
  have hsz : 1 + tsizeL ks' + csizeL cs' < 2^30 := by simpa only [tsize] using hN
  have hlen := length_psizeL ks
  have hlen' := length_tsizeL ks'
  refine FCallN.of_tri tbl 83 Tryd.func13 rfl rfl (fun _ => rfl) fun w0 M ρ0 D0 hM => ?_
  refine Tri.fact (i := 0) rfl (fun D w x h => pat_wf h) (fun hr => ?_)
  refine Tri.fact (i := 1) rfl (fun D w x h => tm_wf h) (fun hr' => ?_)
  simp only [wfP, wfT] at hr hr'
  repeat refine Tri.seq ?_
  refine Tri.region mixed ?_
  refine s_box SS 2 ?_
  refine s_box SS 3 ?_
  refine s_val (v_assign SS) ?_
  refine s_val (v_assign SS) ?_
  refine e_seqN [2, 3] ?_
  repeat refine Tri.seq ?_
  refine Tri.region mixed ?_
  first | refine s_val (v_field SS) ?_ | refine s_val (v_fieldp SS) ?_
  first | refine s_val (v_load SS) ?_ | refine s_val (v_loadp SS) ?_
  refine e_seq ?_
  repeat refine Tri.seq ?_
  refine Tri.block ?_
  repeat refine Tri.seq ?_
  refine Tri.region mixed ?_
  refine s_val (v_int SS) ?_
  first | refine s_assignOw ?_ | refine s_val (v_assign SS) ?_
  refine e_seq ?_
  repeat refine Tri.seq ?_
  refine Tri.cond rfl (fun h0 => ?_) (fun h0 => ?_)
  · skip
    have hf : fitsM (.mk k n r ks) (.mk k' n' r' ks' cs') = ([.mk k' n' r' ks' cs'], true) := by simp at h0; simp [fitsM, h0]
    repeat refine Tri.seq ?_
    refine Tri.region mixed ?_
    first | refine s_val (v_load SS) ?_ | refine s_val (v_loadp SS) ?_
    refine s_val (v_callN (fun m n h => (tmc_low h _).imp) (fun _ => own_c (.mk k' n' r' ks' cs') hN)) ?_
    refine s_sl SS (lo := w0.heap.size) ?_
    first | refine s_assignOw ?_ | refine s_val (v_assign SS) ?_
    refine s_val (v_assign SS) ?_
    refine e_seq ?_
    repeat refine Tri.seq ?_
    rw [hf]
    exact Tri.ret ⟨.inr rfl, ret2 rfl resV_tmp (ToPu.imp (by repeat constructor)) resV_tmp (VImp.refl _)⟩
  · skip
    repeat refine Tri.seq ?_
    refine Tri.region mixed ?_
    refine s_val (v_int SS) ?_
    first | refine s_assignOw ?_ | refine s_val (v_assign SS) ?_
    refine e_seq ?_
    repeat refine Tri.seq ?_
    refine Tri.cond rfl (fun h1 => ?_) (fun h1 => ?_)
    · skip
      have hf : fitsM (.mk k n r ks) (.mk k' n' r' ks' cs') = ([], k' == 2 && n' == n) := by simp at h1; simp [fitsM, h1, Tm.kind, Tm.num]
      repeat refine Tri.seq ?_
      refine Tri.region mixed ?_
      first | refine s_val (v_field SS) ?_ | refine s_val (v_fieldp SS) ?_
      first | refine s_val (v_load SS) ?_ | refine s_val (v_loadp SS) ?_
      refine s_val (v_int SS) ?_
      refine s_move SS ?_
      first | refine s_gg (by first | exact Guard.T rfl rfl rfl | exact Guard.F rfl rfl rfl | exact Guard.gT rfl rfl rfl | exact Guard.gF rfl rfl rfl) (v_field SS) ?_ | refine s_gg (by first | exact Guard.T rfl rfl rfl | exact Guard.F rfl rfl rfl | exact Guard.gT rfl rfl rfl | exact Guard.gF rfl rfl rfl) (v_fieldp SS) ?_
      first | refine s_gg (by first | exact Guard.T rfl rfl rfl | exact Guard.F rfl rfl rfl | exact Guard.gT rfl rfl rfl | exact Guard.gF rfl rfl rfl) (v_load SS) ?_ | refine s_gg (by first | exact Guard.T rfl rfl rfl | exact Guard.F rfl rfl rfl | exact Guard.gT rfl rfl rfl | exact Guard.gF rfl rfl rfl) (v_loadp SS) ?_
      first | refine s_gg (by first | exact Guard.T rfl rfl rfl | exact Guard.F rfl rfl rfl | exact Guard.gT rfl rfl rfl | exact Guard.gF rfl rfl rfl) (v_field SS) ?_ | refine s_gg (by first | exact Guard.T rfl rfl rfl | exact Guard.F rfl rfl rfl | exact Guard.gT rfl rfl rfl | exact Guard.gF rfl rfl rfl) (v_fieldp SS) ?_
      first | refine s_gg (by first | exact Guard.T rfl rfl rfl | exact Guard.F rfl rfl rfl | exact Guard.gT rfl rfl rfl | exact Guard.gF rfl rfl rfl) (v_load SS) ?_ | refine s_gg (by first | exact Guard.T rfl rfl rfl | exact Guard.F rfl rfl rfl | exact Guard.gT rfl rfl rfl | exact Guard.gF rfl rfl rfl) (v_loadp SS) ?_
      refine s_gg (by first | exact Guard.T rfl rfl rfl | exact Guard.F rfl rfl rfl | exact Guard.gT rfl rfl rfl | exact Guard.gF rfl rfl rfl) (v_int SS) ?_
      refine s_val (v_and SS) ?_
      refine s_val (v_assign SS) ?_
      first | refine s_assignOw ?_ | refine s_val (v_assign SS) ?_
      refine e_draw ?_
      repeat refine Tri.seq ?_
      rw [hf]
      exact Tri.ret ⟨.inr rfl, ret2 rfl resV_tmp (ToPu.imp (by repeat constructor)) resV_tmp (VImp.refl _)⟩
    · skip
      repeat refine Tri.seq ?_
      refine Tri.region mixed ?_
      refine s_val (v_int SS) ?_
      first | refine s_assignOw ?_ | refine s_val (v_assign SS) ?_
      refine e_seq ?_
      repeat refine Tri.seq ?_
      refine Tri.cond rfl (fun h2 => ?_) (fun h2 => ?_)
      · skip
        repeat refine Tri.seq ?_
        refine Tri.region mixed ?_
        first | refine s_val (v_field SS) ?_ | refine s_val (v_fieldp SS) ?_
        first | refine s_val (v_load SS) ?_ | refine s_val (v_loadp SS) ?_
        refine s_val (v_int SS) ?_
        refine s_move SS ?_
        first | refine s_gg (by first | exact Guard.T rfl rfl rfl | exact Guard.F rfl rfl rfl | exact Guard.gT rfl rfl rfl | exact Guard.gF rfl rfl rfl) (v_field SS) ?_ | refine s_gg (by first | exact Guard.T rfl rfl rfl | exact Guard.F rfl rfl rfl | exact Guard.gT rfl rfl rfl | exact Guard.gF rfl rfl rfl) (v_fieldp SS) ?_
        first | refine s_gg (by first | exact Guard.T rfl rfl rfl | exact Guard.F rfl rfl rfl | exact Guard.gT rfl rfl rfl | exact Guard.gF rfl rfl rfl) (v_load SS) ?_ | refine s_gg (by first | exact Guard.T rfl rfl rfl | exact Guard.F rfl rfl rfl | exact Guard.gT rfl rfl rfl | exact Guard.gF rfl rfl rfl) (v_loadp SS) ?_
        first | refine s_gg (by first | exact Guard.T rfl rfl rfl | exact Guard.F rfl rfl rfl | exact Guard.gT rfl rfl rfl | exact Guard.gF rfl rfl rfl) (v_field SS) ?_ | refine s_gg (by first | exact Guard.T rfl rfl rfl | exact Guard.F rfl rfl rfl | exact Guard.gT rfl rfl rfl | exact Guard.gF rfl rfl rfl) (v_fieldp SS) ?_
        first | refine s_gg (by first | exact Guard.T rfl rfl rfl | exact Guard.F rfl rfl rfl | exact Guard.gT rfl rfl rfl | exact Guard.gF rfl rfl rfl) (v_load SS) ?_ | refine s_gg (by first | exact Guard.T rfl rfl rfl | exact Guard.F rfl rfl rfl | exact Guard.gT rfl rfl rfl | exact Guard.gF rfl rfl rfl) (v_loadp SS) ?_
        refine s_gg (by first | exact Guard.T rfl rfl rfl | exact Guard.F rfl rfl rfl | exact Guard.gT rfl rfl rfl | exact Guard.gF rfl rfl rfl) (v_bin SS (h := bin_neS (hr'.1.trans hr.1.symm))) ?_
        refine s_val (v_or SS) ?_
        refine s_move SS ?_
        first | refine s_gg (by first | exact Guard.T rfl rfl rfl | exact Guard.F rfl rfl rfl | exact Guard.gT rfl rfl rfl | exact Guard.gF rfl rfl rfl) (v_field SS) ?_ | refine s_gg (by first | exact Guard.T rfl rfl rfl | exact Guard.F rfl rfl rfl | exact Guard.gT rfl rfl rfl | exact Guard.gF rfl rfl rfl) (v_fieldp SS) ?_
        first | refine s_gg (by first | exact Guard.T rfl rfl rfl | exact Guard.F rfl rfl rfl | exact Guard.gT rfl rfl rfl | exact Guard.gF rfl rfl rfl) (v_load SS) ?_ | refine s_gg (by first | exact Guard.T rfl rfl rfl | exact Guard.F rfl rfl rfl | exact Guard.gT rfl rfl rfl | exact Guard.gF rfl rfl rfl) (v_loadp SS) ?_
        first | refine s_gg (by first | exact Guard.T rfl rfl rfl | exact Guard.F rfl rfl rfl | exact Guard.gT rfl rfl rfl | exact Guard.gF rfl rfl rfl) (v_field SS) ?_ | refine s_gg (by first | exact Guard.T rfl rfl rfl | exact Guard.F rfl rfl rfl | exact Guard.gT rfl rfl rfl | exact Guard.gF rfl rfl rfl) (v_fieldp SS) ?_
        first | refine s_gg (by first | exact Guard.T rfl rfl rfl | exact Guard.F rfl rfl rfl | exact Guard.gT rfl rfl rfl | exact Guard.gF rfl rfl rfl) (v_load SS) ?_ | refine s_gg (by first | exact Guard.T rfl rfl rfl | exact Guard.F rfl rfl rfl | exact Guard.gT rfl rfl rfl | exact Guard.gF rfl rfl rfl) (v_loadp SS) ?_
        refine s_gg (by first | exact Guard.T rfl rfl rfl | exact Guard.F rfl rfl rfl | exact Guard.gT rfl rfl rfl | exact Guard.gF rfl rfl rfl) (v_int SS) ?_
        refine s_val (v_or SS) ?_
        refine s_move SS ?_
        first | refine s_gg (by first | exact Guard.T rfl rfl rfl | exact Guard.F rfl rfl rfl | exact Guard.gT rfl rfl rfl | exact Guard.gF rfl rfl rfl) (v_field SS) ?_ | refine s_gg (by first | exact Guard.T rfl rfl rfl | exact Guard.F rfl rfl rfl | exact Guard.gT rfl rfl rfl | exact Guard.gF rfl rfl rfl) (v_fieldp SS) ?_
        first | refine s_gg (by first | exact Guard.T rfl rfl rfl | exact Guard.F rfl rfl rfl | exact Guard.gT rfl rfl rfl | exact Guard.gF rfl rfl rfl) (v_load SS) ?_ | refine s_gg (by first | exact Guard.T rfl rfl rfl | exact Guard.F rfl rfl rfl | exact Guard.gT rfl rfl rfl | exact Guard.gF rfl rfl rfl) (v_loadp SS) ?_
        first | refine s_gg (by first | exact Guard.T rfl rfl rfl | exact Guard.F rfl rfl rfl | exact Guard.gT rfl rfl rfl | exact Guard.gF rfl rfl rfl) (v_len SS) ?_ | refine s_gg (by first | exact Guard.T rfl rfl rfl | exact Guard.F rfl rfl rfl | exact Guard.gT rfl rfl rfl | exact Guard.gF rfl rfl rfl) (v_lenx SS) ?_ | refine s_gg (by first | exact Guard.T rfl rfl rfl | exact Guard.F rfl rfl rfl | exact Guard.gT rfl rfl rfl | exact Guard.gF rfl rfl rfl) (v_len0 SS) ?_ | refine s_gg (by first | exact Guard.T rfl rfl rfl | exact Guard.F rfl rfl rfl | exact Guard.gT rfl rfl rfl | exact Guard.gF rfl rfl rfl) (v_lena SS) ?_
        first | refine s_gg (by first | exact Guard.T rfl rfl rfl | exact Guard.F rfl rfl rfl | exact Guard.gT rfl rfl rfl | exact Guard.gF rfl rfl rfl) (v_field SS) ?_ | refine s_gg (by first | exact Guard.T rfl rfl rfl | exact Guard.F rfl rfl rfl | exact Guard.gT rfl rfl rfl | exact Guard.gF rfl rfl rfl) (v_fieldp SS) ?_
        first | refine s_gg (by first | exact Guard.T rfl rfl rfl | exact Guard.F rfl rfl rfl | exact Guard.gT rfl rfl rfl | exact Guard.gF rfl rfl rfl) (v_load SS) ?_ | refine s_gg (by first | exact Guard.T rfl rfl rfl | exact Guard.F rfl rfl rfl | exact Guard.gT rfl rfl rfl | exact Guard.gF rfl rfl rfl) (v_loadp SS) ?_
        first | refine s_gg (by first | exact Guard.T rfl rfl rfl | exact Guard.F rfl rfl rfl | exact Guard.gT rfl rfl rfl | exact Guard.gF rfl rfl rfl) (v_len SS) ?_ | refine s_gg (by first | exact Guard.T rfl rfl rfl | exact Guard.F rfl rfl rfl | exact Guard.gT rfl rfl rfl | exact Guard.gF rfl rfl rfl) (v_lenx SS) ?_ | refine s_gg (by first | exact Guard.T rfl rfl rfl | exact Guard.F rfl rfl rfl | exact Guard.gT rfl rfl rfl | exact Guard.gF rfl rfl rfl) (v_len0 SS) ?_ | refine s_gg (by first | exact Guard.T rfl rfl rfl | exact Guard.F rfl rfl rfl | exact Guard.gT rfl rfl rfl | exact Guard.gF rfl rfl rfl) (v_lena SS) ?_
        refine s_gg (by first | exact Guard.T rfl rfl rfl | exact Guard.F rfl rfl rfl | exact Guard.gT rfl rfl rfl | exact Guard.gF rfl rfl rfl) (v_int SS) ?_
        refine s_val (v_or SS) ?_
        refine e_seq ?_
        repeat refine Tri.seq ?_
        refine Tri.cond rfl (fun h3 => ?_) (fun h3 => ?_)
        · skip
          have hf : fitsM (.mk k n r ks) (.mk k' n' r' ks' cs') = ([], false) := by
            rw [tms_length, pats_length] at h3
            simp only [beq_iff_eq] at h2
            rw [h2]
            show (if (k' != 8 || !(r' == r) || n' != n || ((ks'.length : Int) != ks.length)) = true then (([], false) : List Tm × Bool) else fitsL ks ks') = _
            exact if_pos h3
          repeat refine Tri.seq ?_
          refine Tri.region mixed ?_
          refine s_val (v_assign SS) ?_
          refine s_val (v_assign SS) ?_
          refine e_seq ?_
          repeat refine Tri.seq ?_
          rw [hf]
          exact Tri.ret ⟨.inr rfl, ret2 rfl resV_tmp (ToPu.imp (by repeat constructor)) resV_tmp (VImp.refl _)⟩
        · skip
          have hf : fitsM (.mk k n r ks) (.mk k' n' r' ks' cs') = fitsL ks ks' := by
            rw [tms_length, pats_length] at h3
            simp only [beq_iff_eq] at h2
            rw [h2]
            show (if (k' != 8 || !(r' == r) || n' != n || ((ks'.length : Int) != ks.length)) = true then (([], false) : List Tm × Bool) else fitsL ks ks') = _
            exact if_neg (by rw [h3]; simp)
          have hll : ks'.length = ks.length := by
            rw [tms_length, pats_length] at h3
            simp only [Bool.or_eq_false_iff, bne_eq_false_iff_eq] at h3
            omega
          refine Tri.skip ?_
          repeat refine Tri.seq ?_
          refine Tri.region mixed ?_
          refine s_val (v_assign SS) ?_
          refine e_seq ?_
          repeat refine Tri.seq ?_
          refine Tri.region mixed ?_
          first | refine s_val (v_field SS) ?_ | refine s_val (v_fieldp SS) ?_
          first | refine s_load SS ?_ | refine s_val (v_loadp SS) ?_
          first | refine s_val (v_len SS) ?_ | refine s_val (v_lenx SS) ?_ | refine s_val (v_len0 SS) ?_ | refine s_val (v_lena SS) ?_
          refine s_val (v_move SS) ?_
          refine e_seq ?_
          repeat refine Tri.seq ?_
          refine Tri.block (Tri.loopW (σ := {x : Nat × List Tm // fitsL (ks.take x.1) (ks'.take x.1) = (x.2, true)}) (fun i => ⟨[(2, .ptr 2 [] 26), (3, .ptr 3 [] 30), (6, .ow w0.heap.size 30 (tmsc w0.heap.size i.1.2)), (59, .pu (.sl 0 26 (patsc 0 ks))), (60, iv .i64 (patsc 0 ks).length), (61, iv .i64 i.1.1)], [(2, .var 26 (.pu (patc 0 (.mk k n r ks)))), (3, .var 30 (.pu (tmc 0 (.mk k' n' r' ks' cs'))))]⟩) (fun i => ks.length - i.1.1) ⟨(0, []), by simp [fitsL]⟩ ?_ ?_ (fun i => ?_))
          · repeat (first | exact .nil | refine .cons rfl (by first | exact .refl | (focus ((repeat constructor); done)) | (exact .nilcOw)) ?_)
          · repeat (first | exact .nil | refine .cons rfl (by first | exact .refl | (focus ((repeat constructor); done)) | (exact .nilcOw)) ?_)
          repeat refine Tri.seq ?_
          refine Tri.region mixed ?_
          refine s_val (v_int SS) ?_
          refine e_seq ?_
          repeat refine Tri.seq ?_
          refine Tri.cond rfl (fun h4 => ?_) (fun h4 => ?_)
          · skip
            have hi : i.1.1 < ks.length := by rw [pats_length] at h4; simpa using h4
            have hi' : i.1.1 < ks'.length := by omega
            have htk := fitsL_take hi hi'
            rw [i.2] at htk
            have hsp := psizeL_get hi
            have hst := tsize_mem (List.getElem_mem hi')
            refine Tri.skip ?_
            repeat refine Tri.seq ?_
            refine Tri.block ?_
            repeat refine Tri.seq ?_
            refine Tri.region mixed ?_
            refine s_move SS ?_
            refine s_val (v_index SS (h0 := by omega) (hp := pats_get hi)) ?_
            first | refine s_val (v_load SS) ?_ | refine s_val (v_loadp SS) ?_
            refine s_alloc SS 8 ?_
            first | refine s_assignOw ?_ | refine s_val (v_assign SS) ?_
            refine s_store SS ?_
            refine e_seqN [8] ?_
            repeat refine Tri.seq ?_
            refine Tri.region mixed ?_
            first | refine s_val (v_load SS) ?_ | refine s_val (v_loadp SS) ?_
            first | refine s_val (v_field SS) ?_ | refine s_val (v_fieldp SS) ?_
            first | refine s_load SS ?_ | refine s_val (v_loadp SS) ?_
            refine s_move SS ?_
            refine s_val (v_index SS (h0 := by omega) (hp := tms_get hi')) ?_
            first | refine s_val (v_load SS) ?_ | refine s_val (v_loadp SS) ?_
            refine s_val (v_callN (fun m n h => fitV_low h _) (fun _ => ih ks[i.1.1] (by omega) ks'[i.1.1] (by omega))) ?_
            refine s_move SS ?_
            refine s_val (v_extract SS) ?_
            refine s_val (v_extract SS) ?_
            first | refine s_assignOw ?_ | refine s_val (v_assign SS) ?_
            first | refine s_assignOw ?_ | refine s_val (v_assign SS) ?_
            refine e_draw ?_
            repeat refine Tri.seq ?_
            refine Tri.region mixed ?_
            refine s_move SS ?_
            refine s_val (v_not SS) ?_
            refine e_seq ?_
            repeat refine Tri.seq ?_
            refine Tri.cond rfl (fun h5 => ?_) (fun h5 => ?_)
            · skip
              have hf2 : fitsL ks ks' = ([], false) := fitsL_stop (i := i.1.1 + 1) (by
                rw [htk]; simp at h5; simp [fitAdd, h5])
              rw [hf2] at hf
              repeat refine Tri.seq ?_
              refine Tri.region mixed ?_
              refine s_val (v_assign SS) ?_
              refine s_val (v_assign SS) ?_
              refine e_seq ?_
              repeat refine Tri.seq ?_
              rw [hf]
              exact Tri.ret ⟨.inr rfl, ret2 rfl resV_tmp (ToPu.imp (by repeat constructor)) resV_tmp (VImp.refl _)⟩
            · skip
              have hnext : fitsL (ks.take (i.1.1 + 1)) (ks'.take (i.1.1 + 1)) = (i.1.2 ++ (fitsM ks[i.1.1] ks'[i.1.1]).1, true) := by
                rw [htk]; simp at h5; simp [fitAdd, h5]
              refine Tri.skip ?_
              repeat refine Tri.seq ?_
              refine Tri.region mixed ?_
              refine s_move SS ?_
              refine s_move SS ?_
              refine s_app1 6 ?_ ?_
              · have h1 := fitsL_b (ks.take i.1.1) (ks'.take i.1.1)
                have h2 := fits_b ks[i.1.1] ks'[i.1.1]
                have h3 := tsizeL_take (ks := ks') (i := i.1.1)
                rw [i.2] at h1
                simp only [tms_length] at h1 ⊢
                omega
              first | refine s_assignOw ?_ | refine s_val (v_assign SS) ?_
              refine e_seq ?_
              repeat refine Tri.seq ?_
              refine Tri.region mixed ?_
              refine s_val (v_int SS) ?_
              refine s_move SS ?_
              refine e_seq ?_
              refine ⟨⟨(i.1.1 + 1, i.1.2 ++ (fitsM ks[i.1.1] ks'[i.1.1]).1), hnext⟩, by show ks.length - (i.1.1 + 1) < ks.length - i.1.1; omega, le_of ?_ ?_⟩
              · repeat (first | exact SubE.nil | refine SubE.cons rfl (by first | rfl | (rw [wrap64 (by omega) (by omega)]; rfl) | (simp only [tms_eq, List.map_append])) ?_)
              · repeat (first | exact SubH.nil | refine SubH.cons rfl (by first | rfl | (rw [wrap64 (by omega) (by omega)]; rfl) | (simp only [tms_eq, List.map_append])) ?_)
          · skip
            have hf2 : fitsL ks ks' = (i.1.2, true) := by
              have := i.2
              rwa [List.take_of_length_le (by rw [pats_length] at h4; simp at h4; omega), List.take_of_length_le (by rw [pats_length] at h4; simp at h4; omega)] at this
            rw [hf2] at hf
            refine Tri.exit ?_
            repeat refine Tri.seq ?_
            refine Tri.region mixed ?_
            refine s_move SS ?_
            first | refine s_assignOw ?_ | refine s_val (v_assign SS) ?_
            refine s_val (v_assign SS) ?_
            refine e_seq ?_
            repeat refine Tri.seq ?_
            rw [hf]
            exact Tri.ret ⟨.inr rfl, ret2 rfl resV_tmp (ToPu.imp (by repeat constructor)) resV_tmp (VImp.refl _)⟩
      · skip
        have hf : fitsM (.mk k n r ks) (.mk k' n' r' ks' cs') = ([], false) := by
          simp at h0 h1 h2
          simp [fitsM, h0, h1, h2]
        refine Tri.skip ?_
        repeat refine Tri.seq ?_
        refine Tri.region mixed ?_
        refine s_val (v_assign SS) ?_
        refine s_val (v_assign SS) ?_
        refine e_seq ?_
        repeat refine Tri.seq ?_
        rw [hf]
        exact Tri.ret ⟨.inr rfl, ret2 rfl resV_tmp (ToPu.imp (by repeat constructor)) resV_tmp (VImp.refl _)⟩
end Go.Proofs.YtkcgkignhpepkaaDoor

/- What comes of a Prim, and of a Match. -/
namespace Go.Proofs.YtkcgkignhpepkaaDoor
open Go Hs
variable {G : List (Nat × TypeId × Pu)}

def natM (n : Int) : Tm := .mk 2 n Z32 [] []
def primV (op a b : Int) : Int :=
  if op = 1 then IntKind.wrap .i64 (a + b) else if op = 2 then IntKind.wrap .i64 (a - b) else if op = 3 then IntKind.wrap .i64 (a * b)
  else if op = 4 then (if a = b then 1 else 0) else if op = 5 then (if a < b then 1 else 0) else 0
def capM (x : Int) : Int := if 1073741824 < (if x < 0 then 0 else x) then 1073741824 else (if x < 0 then 0 else x)
def primM (op a b : Int) : Tm := natM (capM (primV op a b))

theorem primE {P : Program} (m : Nat) (op a b : Int) {x : Int} (xk yk : Int) (xr yr : List Int) (xs ys : List Tm) (xc yc : List Cs) (h : x = primV op a b) :
    VImp P (.agg 30 [iv .i64 2, iv .i64 (if 1073741824 < (if x < 0 then 0 else x) then 1073741824 else (if x < 0 then 0 else x)), .pu (refP Z32), .nilc, .nilc]) (.pu (tmc m (primM op (Tm.mk xk a xr xs xc).num (Tm.mk yk b yr ys yc).num))) := by
  subst h
  exact ToPu.imp (by unfold primM natM capM Tm.num; repeat constructor)

theorem prim_c (k n : Int) (r : List Int) (ks : List Tm) (cs : List Cs) (h2 : 2 ≤ ks.length) : FCallN Tryd.prog G 74 [.pu (tmc 0 (.mk k n r ks cs))] (fun m => .pu (tmc m (primM n ks[0].num ks[1].num))) := by
  have hg0 := tms_get (lo := 0) (ks := ks) (i := 0) (by omega)
  have hg1 := tms_get (lo := 0) (ks := ks) (i := 1) (by omega)
  generalize ks[0] = x at hg0 ⊢
  generalize ks[1] = y at hg1 ⊢
  obtain ⟨xk, xn, xr, xs, xc⟩ := x
  obtain ⟨yk, yn, yr, ys, yc⟩ := y
  refine FCallN.of_tri tbl 47 Tryd.func74 rfl rfl (fun _ => rfl) fun w0 M ρ0 D0 hM => ?_
  repeat refine Tri.seq ?_
  refine Tri.region mixed ?_
  refine s_box SS 1 ?_
  refine s_alloc SS 2 ?_
  refine e_seqN [1, 2] ?_
  repeat refine Tri.seq ?_
  refine Tri.region mixed ?_
  first | refine s_val (v_field SS) ?_ | refine s_val (v_fieldp SS) ?_
  first | refine s_load SS ?_ | refine s_val (v_loadp SS) ?_
  refine s_val (v_index SS (h0 := by omega) (hp := hg0)) ?_
  first | refine s_val (v_field SS) ?_ | refine s_val (v_fieldp SS) ?_
  first | refine s_val (v_load SS) ?_ | refine s_val (v_loadp SS) ?_
  first | refine s_val (v_field SS) ?_ | refine s_val (v_fieldp SS) ?_
  first | refine s_load SS ?_ | refine s_val (v_loadp SS) ?_
  refine s_val (v_index SS (h0 := by omega) (hp := hg1)) ?_
  first | refine s_val (v_field SS) ?_ | refine s_val (v_fieldp SS) ?_
  first | refine s_val (v_load SS) ?_ | refine s_val (v_loadp SS) ?_
  first | refine s_assignOw ?_ | refine s_val (v_assign SS) ?_
  first | refine s_assignOw ?_ | refine s_val (v_assign SS) ?_
  refine e_draw ?_
  repeat refine Tri.seq ?_
  refine Tri.region mixed ?_
  refine s_val (v_assign SS) ?_
  refine e_seq ?_
  repeat refine Tri.seq ?_
  refine Tri.region mixed ?_
  first | refine s_val (v_field SS) ?_ | refine s_val (v_fieldp SS) ?_
  first | refine s_val (v_load SS) ?_ | refine s_val (v_loadp SS) ?_
  refine e_seq ?_
  repeat refine Tri.seq ?_
  refine Tri.block ?_
  repeat refine Tri.seq ?_
  refine Tri.region mixed ?_
  refine s_val (v_int SS) ?_
  first | refine s_assignOw ?_ | refine s_val (v_assign SS) ?_
  refine e_seq ?_
  repeat refine Tri.seq ?_
  refine Tri.cond rfl (fun h0 => ?_) (fun h0 => ?_)
  · skip
    repeat refine Tri.seq ?_
    refine Tri.region mixed ?_
    refine s_move SS ?_
    refine s_move SS ?_
    refine s_val (v_int SS) ?_
    first | refine s_assignOw ?_ | refine s_val (v_assign SS) ?_
    refine e_seq ?_
    repeat refine Tri.seq ?_
    refine Tri.region mixed ?_
    refine s_move SS ?_
    refine s_val (v_maxD) ?_
    refine s_val (v_minD) ?_
    first | refine s_val (v_litP SS) ?_ | refine s_val (v_litA SS) ?_
    refine s_store SS ?_
    refine e_seq ?_
    repeat refine Tri.seq ?_
    exact Tri.ret ⟨.inr rfl, ret1 rfl resV_cell ((by first | exact primE _ _ _ _ _ _ _ _ _ _ _ _ (by simp only [beq_iff_eq, beq_eq_false_iff_ne, ne_eq, decide_eq_true_eq, decide_eq_false_iff_not] at *; simp_all [primV])))⟩
  · skip
    repeat refine Tri.seq ?_
    refine Tri.region mixed ?_
    refine s_val (v_int SS) ?_
    first | refine s_assignOw ?_ | refine s_val (v_assign SS) ?_
    refine e_seq ?_
    repeat refine Tri.seq ?_
    refine Tri.cond rfl (fun h1 => ?_) (fun h1 => ?_)
    · skip
      repeat refine Tri.seq ?_
      refine Tri.region mixed ?_
      refine s_move SS ?_
      refine s_move SS ?_
      refine s_val (v_int SS) ?_
      first | refine s_assignOw ?_ | refine s_val (v_assign SS) ?_
      refine e_seq ?_
      repeat refine Tri.seq ?_
      refine Tri.region mixed ?_
      refine s_move SS ?_
      refine s_val (v_maxD) ?_
      refine s_val (v_minD) ?_
      first | refine s_val (v_litP SS) ?_ | refine s_val (v_litA SS) ?_
      refine s_store SS ?_
      refine e_seq ?_
      repeat refine Tri.seq ?_
      exact Tri.ret ⟨.inr rfl, ret1 rfl resV_cell ((by first | exact primE _ _ _ _ _ _ _ _ _ _ _ _ (by simp only [beq_iff_eq, beq_eq_false_iff_ne, ne_eq, decide_eq_true_eq, decide_eq_false_iff_not] at *; simp_all [primV])))⟩
    · skip
      repeat refine Tri.seq ?_
      refine Tri.region mixed ?_
      refine s_val (v_int SS) ?_
      first | refine s_assignOw ?_ | refine s_val (v_assign SS) ?_
      refine e_seq ?_
      repeat refine Tri.seq ?_
      refine Tri.cond rfl (fun h2 => ?_) (fun h2 => ?_)
      · skip
        repeat refine Tri.seq ?_
        refine Tri.region mixed ?_
        refine s_move SS ?_
        refine s_move SS ?_
        refine s_val (v_int SS) ?_
        first | refine s_assignOw ?_ | refine s_val (v_assign SS) ?_
        refine e_seq ?_
        repeat refine Tri.seq ?_
        refine Tri.region mixed ?_
        refine s_move SS ?_
        refine s_val (v_maxD) ?_
        refine s_val (v_minD) ?_
        first | refine s_val (v_litP SS) ?_ | refine s_val (v_litA SS) ?_
        refine s_store SS ?_
        refine e_seq ?_
        repeat refine Tri.seq ?_
        exact Tri.ret ⟨.inr rfl, ret1 rfl resV_cell ((by first | exact primE _ _ _ _ _ _ _ _ _ _ _ _ (by simp only [beq_iff_eq, beq_eq_false_iff_ne, ne_eq, decide_eq_true_eq, decide_eq_false_iff_not] at *; simp_all [primV])))⟩
      · skip
        repeat refine Tri.seq ?_
        refine Tri.region mixed ?_
        refine s_val (v_int SS) ?_
        first | refine s_assignOw ?_ | refine s_val (v_assign SS) ?_
        refine e_seq ?_
        repeat refine Tri.seq ?_
        refine Tri.cond rfl (fun h3 => ?_) (fun h3 => ?_)
        · skip
          repeat refine Tri.seq ?_
          refine Tri.region mixed ?_
          refine s_move SS ?_
          refine s_move SS ?_
          refine s_val (v_int SS) ?_
          refine e_seq ?_
          repeat refine Tri.seq ?_
          refine Tri.cond rfl (fun h4 => ?_) (fun h4 => ?_)
          · skip
            repeat refine Tri.seq ?_
            refine Tri.region mixed ?_
            refine s_val (v_assign SS) ?_
            refine e_seq ?_
            repeat refine Tri.seq ?_
            refine Tri.region mixed ?_
            refine s_move SS ?_
            refine s_val (v_maxD) ?_
            refine s_val (v_minD) ?_
            first | refine s_val (v_litP SS) ?_ | refine s_val (v_litA SS) ?_
            refine s_store SS ?_
            refine e_seq ?_
            repeat refine Tri.seq ?_
            exact Tri.ret ⟨.inr rfl, ret1 rfl resV_cell ((by first | exact primE _ _ _ _ _ _ _ _ _ _ _ _ (by simp only [beq_iff_eq, beq_eq_false_iff_ne, ne_eq, decide_eq_true_eq, decide_eq_false_iff_not] at *; simp_all [primV])))⟩
          · skip
            refine Tri.skip ?_
            repeat refine Tri.seq ?_
            refine Tri.region mixed ?_
            refine s_move SS ?_
            refine s_val (v_maxD) ?_
            refine s_val (v_minD) ?_
            first | refine s_val (v_litP SS) ?_ | refine s_val (v_litA SS) ?_
            refine s_store SS ?_
            refine e_seq ?_
            repeat refine Tri.seq ?_
            exact Tri.ret ⟨.inr rfl, ret1 rfl resV_cell ((by first | exact primE _ _ _ _ _ _ _ _ _ _ _ _ (by simp only [beq_iff_eq, beq_eq_false_iff_ne, ne_eq, decide_eq_true_eq, decide_eq_false_iff_not] at *; simp_all [primV])))⟩
        · skip
          repeat refine Tri.seq ?_
          refine Tri.region mixed ?_
          refine s_val (v_int SS) ?_
          first | refine s_assignOw ?_ | refine s_val (v_assign SS) ?_
          refine e_seq ?_
          repeat refine Tri.seq ?_
          refine Tri.cond rfl (fun h5 => ?_) (fun h5 => ?_)
          · skip
            repeat refine Tri.seq ?_
            refine Tri.region mixed ?_
            refine s_move SS ?_
            refine s_move SS ?_
            refine s_val (v_int SS) ?_
            refine e_seq ?_
            repeat refine Tri.seq ?_
            refine Tri.cond rfl (fun h6 => ?_) (fun h6 => ?_)
            · skip
              repeat refine Tri.seq ?_
              refine Tri.region mixed ?_
              refine s_val (v_assign SS) ?_
              refine e_seq ?_
              repeat refine Tri.seq ?_
              refine Tri.region mixed ?_
              refine s_move SS ?_
              refine s_val (v_maxD) ?_
              refine s_val (v_minD) ?_
              first | refine s_val (v_litP SS) ?_ | refine s_val (v_litA SS) ?_
              refine s_store SS ?_
              refine e_seq ?_
              repeat refine Tri.seq ?_
              exact Tri.ret ⟨.inr rfl, ret1 rfl resV_cell ((by first | exact primE _ _ _ _ _ _ _ _ _ _ _ _ (by simp only [beq_iff_eq, beq_eq_false_iff_ne, ne_eq, decide_eq_true_eq, decide_eq_false_iff_not] at *; simp_all [primV])))⟩
            · skip
              refine Tri.skip ?_
              repeat refine Tri.seq ?_
              refine Tri.region mixed ?_
              refine s_move SS ?_
              refine s_val (v_maxD) ?_
              refine s_val (v_minD) ?_
              first | refine s_val (v_litP SS) ?_ | refine s_val (v_litA SS) ?_
              refine s_store SS ?_
              refine e_seq ?_
              repeat refine Tri.seq ?_
              exact Tri.ret ⟨.inr rfl, ret1 rfl resV_cell ((by first | exact primE _ _ _ _ _ _ _ _ _ _ _ _ (by simp only [beq_iff_eq, beq_eq_false_iff_ne, ne_eq, decide_eq_true_eq, decide_eq_false_iff_not] at *; simp_all [primV])))⟩
          · skip
            refine Tri.skip ?_
            repeat refine Tri.seq ?_
            refine Tri.region mixed ?_
            refine s_move SS ?_
            refine s_val (v_maxD) ?_
            refine s_val (v_minD) ?_
            first | refine s_val (v_litP SS) ?_ | refine s_val (v_litA SS) ?_
            refine s_store SS ?_
            refine e_seq ?_
            repeat refine Tri.seq ?_
            exact Tri.ret ⟨.inr rfl, ret1 rfl resV_cell ((by first | exact primE _ _ _ _ _ _ _ _ _ _ _ _ (by simp only [beq_iff_eq, beq_eq_false_iff_ne, ne_eq, decide_eq_true_eq, decide_eq_false_iff_not] at *; simp_all [primV])))⟩

/-- A term of no kind. -/
def noneM : Tm := .mk 0 0 Z32 [] []
def matchM : List Cs → Tm → Tm
  | [], _ => noneM
  | .mk q b :: cs, v => if (fitsM q v).2 then putM (fitsM q v).1 0 b else matchM cs v

mutual
theorem fits_sz : ∀ (p : Pat) (v : Tm), ∀ x ∈ (fitsM p v).1, tsize x ≤ tsize v
  | .mk k n r ks, v, x, hx => by
    simp only [fitsM] at hx
    split at hx
    · simp at hx; rw [hx]; omega
    · split at hx
      · simp at hx
      · split at hx
        · split at hx
          · simp at hx
          · have := fitsL_sz ks v.kids x hx
            obtain ⟨k', n', r', ks', cs'⟩ := v
            simp only [Tm.kids, tsize] at this ⊢
            omega
        · simp at hx
theorem fitsL_sz : ∀ (ps : List Pat) (vs : List Tm), ∀ x ∈ (fitsL ps vs).1, tsize x ≤ tsizeL vs
  | [], vs, x, hx => by simp [fitsL] at hx
  | _ :: _, [], x, hx => by simp [fitsL] at hx
  | p :: ps, v :: vs, x, hx => by
    simp only [fitsL, fitAdd] at hx
    simp only [tsizeL]
    split at hx
    · rcases List.mem_append.1 hx with h | h
      · have := fits_sz p v x h; omega
      · have := fitsL_sz ps vs x h; omega
    · simp at hx
end

theorem matched_c (k n : Int) (r : List Int) (ks : List Tm) (cs : List Cs) (h1 : 1 ≤ ks.length) (hN : tsize (.mk k n r ks cs) < 2^30) : FCallN Tryd.prog G 75 [.pu (tmc 0 (.mk k n r ks cs))] (fun m => .pu (tmc m (matchM cs ks[0]))) := by
  have hg0 := tms_get (lo := 0) (ks := ks) (i := 0) (by omega)
  have hs0 := tsize_mem (List.getElem_mem (l := ks) (n := 0) (by omega))
  generalize ks[0] = v at hg0 hs0 ⊢
  have hsz : 1 + tsizeL ks + csizeL cs < 2^30 := by simpa only [tsize] using hN
  have hlenc := length_csizeL cs
  refine FCallN.of_tri tbl 31 Tryd.func75 rfl rfl (fun _ => rfl) fun w0 M ρ0 D0 hM => ?_
  repeat refine Tri.seq ?_
  refine Tri.region mixed ?_
  refine s_box SS 1 ?_
  refine s_alloc SS 2 ?_
  refine e_seqN [1, 2] ?_
  repeat refine Tri.seq ?_
  refine Tri.region mixed ?_
  first | refine s_val (v_field SS) ?_ | refine s_val (v_fieldp SS) ?_
  first | refine s_load SS ?_ | refine s_val (v_loadp SS) ?_
  first | refine s_val (v_len SS) ?_ | refine s_val (v_lenx SS) ?_ | refine s_val (v_len0 SS) ?_ | refine s_val (v_lena SS) ?_
  refine s_val (v_move SS) ?_
  refine e_seq ?_
  repeat refine Tri.seq ?_
  refine Tri.block (Tri.loopW (σ := {i : Nat // matchM cs v = matchM (cs.drop i) v}) (fun i => ⟨[(1, .ptr 1 [] 30), (2, .ptr 2 [] 30), (8, .pu (.sl 0 34 (cssc 0 cs))), (9, iv .i64 (cssc 0 cs).length), (10, iv .i64 i.1)], [(1, .var 30 (.pu (tmc 0 (.mk k n r ks cs)))), (2, .var 30 (.agg 30 [iv .i64 0, iv .i64 0, .pu (refP Z32), .nilc, .nilc]))]⟩) (fun i => cs.length - i.1) ⟨0, rfl⟩ ?_ ?_ (fun i => ?_))
  · repeat (first | exact .nil | refine .cons rfl (by first | exact .refl | (focus ((repeat constructor); done))) ?_)
  · repeat (first | exact .nil | refine .cons rfl (by first | exact .refl | (focus ((repeat constructor); done))) ?_)
  repeat refine Tri.seq ?_
  refine Tri.region mixed ?_
  refine s_val (v_int SS) ?_
  refine e_seq ?_
  repeat refine Tri.seq ?_
  refine Tri.cond rfl (fun h0 => ?_) (fun h0 => ?_)
  · skip
    have hi : i.1 < cs.length := by rw [css_length] at h0; simpa using h0
    have hget := css_get (lo := 0) hi
    have hcz := csize_mem (List.getElem_mem hi)
    have hdrop := i.2
    rw [List.drop_eq_getElem_cons hi] at hdrop
    generalize hci : cs[i.1] = ci at hget hcz hdrop
    obtain ⟨q, b⟩ := ci
    simp only [csize] at hcz
    have hfb := fits_b q v
    refine Tri.skip ?_
    repeat refine Tri.seq ?_
    refine Tri.block ?_
    repeat refine Tri.seq ?_
    refine Tri.region mixed ?_
    refine s_val (v_index SS (h0 := by omega) (hp := hget)) ?_
    first | refine s_val (v_load SS) ?_ | refine s_val (v_loadp SS) ?_
    refine s_alloc SS 4 ?_
    refine s_store SS ?_
    refine e_seqN [4] ?_
    repeat refine Tri.seq ?_
    refine Tri.region mixed ?_
    first | refine s_val (v_field SS) ?_ | refine s_val (v_fieldp SS) ?_
    first | refine s_val (v_load SS) ?_ | refine s_val (v_loadp SS) ?_
    first | refine s_val (v_field SS) ?_ | refine s_val (v_fieldp SS) ?_
    first | refine s_load SS ?_ | refine s_val (v_loadp SS) ?_
    refine s_val (v_index SS (h0 := by omega) (hp := hg0)) ?_
    first | refine s_val (v_load SS) ?_ | refine s_val (v_loadp SS) ?_
    refine s_val (v_callN (fun m n h => fitV_low h _) (fun _ => fits_c _ q (Nat.le_refl _) v (by omega))) ?_
    refine s_move SS ?_
    refine s_val (v_extract SS) ?_
    refine s_val (v_extract SS) ?_
    first | refine s_assignOw ?_ | refine s_val (v_assign SS) ?_
    first | refine s_assignOw ?_ | refine s_val (v_assign SS) ?_
    refine e_draw ?_
    repeat refine Tri.seq ?_
    refine Tri.region mixed ?_
    refine s_move SS ?_
    refine e_seq ?_
    repeat refine Tri.seq ?_
    refine Tri.cond rfl (fun h1 => ?_) (fun h1 => ?_)
    · skip
      have hm : matchM cs v = putM (fitsM q v).1 0 b := hdrop.trans (by simp only [matchM, h1, if_true])
      repeat refine Tri.seq ?_
      refine Tri.region mixed ?_
      first | refine s_val (v_field SS) ?_ | refine s_val (v_fieldp SS) ?_
      first | refine s_val (v_load SS) ?_ | refine s_val (v_loadp SS) ?_
      refine s_move SS ?_
      refine s_val (v_callN (fun m n h => (tmc_low h _).imp) (fun _ => put_c (fitsM q v).1 (by omega) (fun x hx => by have := fits_sz q v x hx; omega) b (by omega)) (himp := .cons (VImp.refl _) (.cons (VImp.refl _) (.cons (Low.imp (.sl (Nat.zero_le _) (tmsc_low (Nat.zero_le _) _))) .nil)))) ?_
      refine s_store SS ?_
      refine e_seq ?_
      repeat refine Tri.seq ?_
      exact Tri.ret ⟨.inr rfl, ret1 rfl resV_cell ((by rw [hm]; exact VImp.refl _))⟩
    · skip
      have hnext : matchM cs v = matchM (cs.drop (i.1 + 1)) v := hdrop.trans (by simp only [matchM, h1, Bool.false_eq_true, if_false])
      refine Tri.skip ?_
      repeat refine Tri.seq ?_
      refine Tri.region mixed ?_
      refine s_val (v_int SS) ?_
      refine s_move SS ?_
      refine e_seq ?_
      refine ⟨⟨i.1 + 1, hnext⟩, by show cs.length - (i.1 + 1) < cs.length - i.1; omega, le_of ?_ ?_⟩
      · repeat (first | exact SubE.nil | refine SubE.cons rfl (by first | rfl | (rw [wrap64 (by omega) (by omega)]; rfl)) ?_)
      · repeat (first | exact SubH.nil | refine SubH.cons rfl (by first | rfl | (rw [wrap64 (by omega) (by omega)]; rfl)) ?_)
  · skip
    have hm : matchM cs v = noneM := by have := i.2; rwa [List.drop_of_length_le (by rw [css_length] at h0; simp at h0; omega)] at this
    refine Tri.exit ?_
    repeat refine Tri.seq ?_
    refine Tri.region mixed ?_
    first | refine s_val (v_lit0 SS) ?_ | refine s_val (v_litP SS) ?_ | refine s_val (v_litA SS) ?_
    refine s_store SS ?_
    refine e_seq ?_
    repeat refine Tri.seq ?_
    exact Tri.ret ⟨.inr rfl, ret1 rfl resV_cell ((by rw [hm]; exact ToPu.imp (by repeat constructor)))⟩
end Go.Proofs.YtkcgkignhpepkaaDoor

/- The place of work: its parts. -/
namespace Go.Proofs.YtkcgkignhpepkaaDoor
open Go Hs
variable {G : List (Nat × TypeId × Pu)}

def pathL (path : List Nat) : List Pu := path.map fun (n : Nat) => .leaf (.int .i64 (n : Int))
def siteP (path : List Nat) (way : List Tm) : Pu := .agg 112 [.sl 0 3 (pathL path), .sl 0 30 (tmsc 0 way)]
instance (path : List Nat) (way : List Tm) : TyV Tryd.prog 112 (.pu (siteP path way)) := inferInstanceAs (TyV Tryd.prog 112 (.pu (.agg _ _)))
theorem path_len (path : List Nat) : (pathL path).length = path.length := by simp [pathL]
theorem path_get {path : List Nat} {i : Nat} (h : i < path.length) : (pathL path)[i]? = some (.leaf (.int .i64 (path[i] : Nat))) := by simp [pathL, h]

theorem site_wf {D : Nat → Nat → Prop} {w : World} {path : List Nat} {way : List Tm} {x : List Value} (h : PR Tryd.prog D w (siteP path way) x) : wfTs way := by
  obtain ⟨_, h⟩ := PR_agg h
  obtain ⟨_, _, _, h⟩ := PRs_cons h
  obtain ⟨⟨_, h⟩, _⟩ := PRs_cons h
  obtain ⟨_, _, h⟩ := PR_sl h
  exact tms_wf h

theorem at_c (path : List Nat) (way : List Tm) (h : path.length < way.length) : FCall Tryd.prog G 64 [.pu (siteP path way)] (.pu (tmc 0 way[path.length])) := by
  refine FCall.of_tri tbl 10 Tryd.func64 rfl rfl rfl fun w0 M ρ0 D0 => ?_
  repeat refine Tri.seq ?_
  refine Tri.region mixed ?_
  refine s_box SS 1 ?_
  refine s_alloc SS 2 ?_
  refine e_seqN [1, 2] ?_
  repeat refine Tri.seq ?_
  refine Tri.region mixed ?_
  first | refine s_val (v_field SS) ?_ | refine s_val (v_fieldp SS) ?_
  first | refine s_load SS ?_ | refine s_val (v_loadp SS) ?_
  first | refine s_val (v_field SS) ?_ | refine s_val (v_fieldp SS) ?_
  first | refine s_load SS ?_ | refine s_val (v_loadp SS) ?_
  first | refine s_val (v_len SS) ?_ | refine s_val (v_lenx SS) ?_ | refine s_val (v_len0 SS) ?_ | refine s_val (v_lena SS) ?_
  refine s_val (v_index SS (h0 := by omega) (hp := by rw [path_len]; exact tms_get h)) ?_
  first | refine s_val (v_load SS) ?_ | refine s_val (v_loadp SS) ?_
  refine s_store SS ?_
  refine e_seq ?_
  repeat refine Tri.seq ?_
  exact Tri.ret ⟨.inr rfl, ret1 rfl resV_cell (VImp.refl _)⟩

def opP (r : List Int) (n : Int) : Pu := .agg 136 [refP r, .leaf (.int .i64 n)]
instance (r : List Int) (n : Int) : TyV Tryd.prog 136 (.pu (opP r n)) := inferInstanceAs (TyV Tryd.prog 136 (.pu (.agg _ _)))
theorem op_cond (r : List Int) (n : Int) (r' : List Int) (n' : Int) : Tryd.prog.eqGuardType Tryd.prog.depth 136 = false ∧ 136 < Tryd.prog.types.size ∧ tyP Tryd.prog 136 (opP r n) = true ∧ tyP Tryd.prog 136 (opP r' n') = true :=
  ⟨by kernel_rfl, of_decide_eq_true (by kernel_rfl), (show tyV Tryd.prog 136 (.pu (opP r n)) = true from TyV.ok), (show tyV Tryd.prog 136 (.pu (opP r' n')) = true from TyV.ok)⟩
theorem list2 {α : Type} : ∀ {l : List α}, l.length = 2 → ∃ a b, l = [a, b]
  | [a, b], _ => ⟨a, b, rfl⟩
theorem op_fields : ∃ f1 f2 : Field, Tryd.prog.underlying 136 = some (.struct #[f1, f2]) ∧ f1.name ≠ "_" ∧ f2.name ≠ "_" ∧ f1.type = 23 ∧ f2.type = 3 := by
  have h : (match Tryd.prog.underlying 136 with | some (.struct fs) => (fs.toList.map (·.type) == [23, 3]) && fs.toList.all (fun f => f.name != "_") | _ => false) = true := by kernel_rfl
  split at h
  · rename_i fs hfs
    obtain ⟨l⟩ := fs
    simp only [Bool.and_eq_true, beq_iff_eq] at h
    obtain ⟨h1, h2⟩ := h
    obtain ⟨f1, f2, rfl⟩ : ∃ f1 f2, l = [f1, f2] := list2 (by simpa using congrArg List.length h1)
    simp only [List.map_cons, List.map_nil, List.cons.injEq, and_true] at h1
    simp only [List.all_cons, List.all_nil, Bool.and_true, Bool.and_eq_true, bne_iff_ne] at h2
    exact ⟨f1, f2, hfs, h2.1, h2.2, h1.1, h1.2⟩
  · cases h
theorem peq_op (d : Nat) {r : List Int} (n : Int) {r' : List Int} (n' : Int) (h : r.length = r'.length) : peqT Tryd.prog (d + 4) 136 (opP r n) (opP r' n') = some ((r == r') && ((n == n') && true)) := by
  obtain ⟨f1, f2, hu, a1, a2, b1, b2⟩ := op_fields
  have hs : Tryd.prog.stoodInHeld 136 = false := by kernel_rfl
  have hi : Tryd.prog.underlying 3 = some (.int .i64) := by kernel_rfl
  have hr := peq_refD (d + 1) h
  have hn : peqT Tryd.prog (d + 3) 3 (.leaf (.int .i64 n)) (.leaf (.int .i64 n')) = some (n == n') := by simp only [peqT, hi, if_true]
  unfold opP
  rw [peqT.eq_def]
  simp only [hu, hs, Bool.false_eq_true, if_false, peqF, a1, a2, b1, b2, hr, hn]
theorem bin_eqO {r : List Int} {n : Int} {r' : List Int} {n' : Int} (h : r.length = r'.length) : binV Tryd.prog .eql 136 (.pu (opP r n)) (.pu (opP r' n')) = some (bv ((r == r') && ((n == n') && true))) := by
  have h1 := op_cond r n r' n'
  have h2 := fun e => peq_op e n n' h
  unfold opP at h1 h2 ⊢
  simp only [binV, if_pos h1]
  generalize hd : (100 : Nat) = d
  obtain ⟨e, rfl⟩ : ∃ e, d = e + 4 := ⟨96, by omega⟩
  rw [h2 e]

theorem op_wf {D : Nat → Nat → Prop} {w : World} {r : List Int} {n : Int} {x : List Value} (h : PR Tryd.prog D w (opP r n) x) : r.length = 32 := by
  obtain ⟨_, h⟩ := PR_agg h
  obtain ⟨⟨_, h⟩, _⟩ := PRs_cons h
  exact ref_len h
def handM (way : List Tm) (r : List Int) : Nat → Int
  | 0 => -1
  | n + 1 => match way[n]? with
    | some x => if x.kind == 12 && x.ref == r then n else handM way r n
    | none => handM way r n

theorem handler_c (path : List Nat) (way : List Tm) (r : List Int) (n : Int) (h : path.length ≤ way.length) (hl : way.length < 2^40) : FCall Tryd.prog G 79 [.pu (siteP path way), .pu (opP r n)] (iv .i64 (handM way r path.length)) := by
  refine FCall.of_tri tbl 33 Tryd.func79 rfl rfl rfl fun w0 M ρ0 D0 => ?_
  refine Tri.fact (i := 0) rfl (fun D w x h => site_wf h) (fun hr => ?_)
  refine Tri.fact (i := 1) rfl (fun D w x h => op_wf h) (fun hr' => ?_)
  repeat refine Tri.seq ?_
  refine Tri.region mixed ?_
  refine s_box SS 2 ?_
  refine s_box SS 3 ?_
  refine s_val (v_assign SS) ?_
  refine e_seqN [2, 3] ?_
  repeat refine Tri.seq ?_
  refine Tri.region mixed ?_
  first | refine s_val (v_field SS) ?_ | refine s_val (v_fieldp SS) ?_
  first | refine s_load SS ?_ | refine s_val (v_loadp SS) ?_
  first | refine s_val (v_len SS) ?_ | refine s_val (v_lenx SS) ?_ | refine s_val (v_len0 SS) ?_ | refine s_val (v_lena SS) ?_
  refine s_val (v_int SS) ?_
  first | refine s_assignOw ?_ | refine s_val (v_assign SS) ?_
  refine e_seq ?_
  repeat refine Tri.seq ?_
  refine Tri.block (Tri.loopW (σ := {j : Nat // j ≤ path.length ∧ handM way r path.length = handM way r j}) (fun i => ⟨[(2, .ptr 2 [] 112), (3, .ptr 3 [] 136), (5, iv .i64 ((i.1 : Int) - 1))], [(2, .var 112 (.pu (siteP path way))), (3, .var 136 (.pu (opP r n)))]⟩) (fun i => i.1) ⟨path.length, Nat.le_refl _, rfl⟩ ?_ ?_ (fun i => ?_))
  · repeat (first | exact .nil | refine .cons rfl (by first | exact .refl | (focus ((repeat constructor); done)) | (rw [path_len, wrap64 (by omega) (by omega)]; exact .refl)) ?_)
  · repeat (first | exact .nil | refine .cons rfl (by first | exact .refl | (focus ((repeat constructor); done)) | (rw [path_len, wrap64 (by omega) (by omega)]; exact .refl)) ?_)
  repeat refine Tri.seq ?_
  refine Tri.region mixed ?_
  refine s_move SS ?_
  refine s_val (v_int SS) ?_
  refine e_seq ?_
  repeat refine Tri.seq ?_
  refine Tri.cond rfl (fun h0 => ?_) (fun h0 => ?_)
  · skip
    have hj : 0 < i.1 := by simp at h0; omega
    obtain ⟨j, hj⟩ : ∃ j, i.1 = j + 1 := ⟨i.1 - 1, by omega⟩
    have hjw : j < way.length := by have := i.2.1; omega
    have hx := tms_get (lo := 0) hjw
    have hxl := wfTs_mem hr _ (List.getElem_mem hjw)
    have hst := i.2.2
    rw [hj] at hst
    simp only [handM, List.getElem?_eq_getElem hjw] at hst
    generalize way[j] = x at hx hxl hst
    obtain ⟨xk, xn, xr, xs, xc⟩ := x
    refine Tri.skip ?_
    repeat refine Tri.seq ?_
    refine Tri.block ?_
    repeat refine Tri.seq ?_
    refine Tri.region mixed ?_
    first | refine s_val (v_field SS) ?_ | refine s_val (v_fieldp SS) ?_
    first | refine s_load SS ?_ | refine s_val (v_loadp SS) ?_
    refine s_move SS ?_
    refine s_val (v_index SS (h0 := by omega) (hp := by rw [show ((i.1 : Int) - 1).toNat = j by omega]; exact hx)) ?_
    first | refine s_val (v_load SS) ?_ | refine s_val (v_loadp SS) ?_
    refine s_alloc SS 6 ?_
    refine s_store SS ?_
    refine e_seqN [6] ?_
    repeat refine Tri.seq ?_
    refine Tri.region mixed ?_
    first | refine s_val (v_field SS) ?_ | refine s_val (v_fieldp SS) ?_
    first | refine s_val (v_load SS) ?_ | refine s_val (v_loadp SS) ?_
    refine s_val (v_int SS) ?_
    refine s_move SS ?_
    first | refine s_gg (by first | exact Guard.T rfl rfl rfl | exact Guard.F rfl rfl rfl | exact Guard.gT rfl rfl rfl | exact Guard.gF rfl rfl rfl) (v_field SS) ?_ | refine s_gg (by first | exact Guard.T rfl rfl rfl | exact Guard.F rfl rfl rfl | exact Guard.gT rfl rfl rfl | exact Guard.gF rfl rfl rfl) (v_fieldp SS) ?_
    first | refine s_gg (by first | exact Guard.T rfl rfl rfl | exact Guard.F rfl rfl rfl | exact Guard.gT rfl rfl rfl | exact Guard.gF rfl rfl rfl) (v_load SS) ?_ | refine s_gg (by first | exact Guard.T rfl rfl rfl | exact Guard.F rfl rfl rfl | exact Guard.gT rfl rfl rfl | exact Guard.gF rfl rfl rfl) (v_loadp SS) ?_
    first | refine s_gg (by first | exact Guard.T rfl rfl rfl | exact Guard.F rfl rfl rfl | exact Guard.gT rfl rfl rfl | exact Guard.gF rfl rfl rfl) (v_field SS) ?_ | refine s_gg (by first | exact Guard.T rfl rfl rfl | exact Guard.F rfl rfl rfl | exact Guard.gT rfl rfl rfl | exact Guard.gF rfl rfl rfl) (v_fieldp SS) ?_
    first | refine s_gg (by first | exact Guard.T rfl rfl rfl | exact Guard.F rfl rfl rfl | exact Guard.gT rfl rfl rfl | exact Guard.gF rfl rfl rfl) (v_load SS) ?_ | refine s_gg (by first | exact Guard.T rfl rfl rfl | exact Guard.F rfl rfl rfl | exact Guard.gT rfl rfl rfl | exact Guard.gF rfl rfl rfl) (v_loadp SS) ?_
    first | refine s_gg (by first | exact Guard.T rfl rfl rfl | exact Guard.F rfl rfl rfl | exact Guard.gT rfl rfl rfl | exact Guard.gF rfl rfl rfl) (v_litP SS) ?_ | refine s_gg (by first | exact Guard.T rfl rfl rfl | exact Guard.F rfl rfl rfl | exact Guard.gT rfl rfl rfl | exact Guard.gF rfl rfl rfl) (v_litA SS) ?_
    first | refine s_gg (by first | exact Guard.T rfl rfl rfl | exact Guard.F rfl rfl rfl | exact Guard.gT rfl rfl rfl | exact Guard.gF rfl rfl rfl) (v_load SS) ?_ | refine s_gg (by first | exact Guard.T rfl rfl rfl | exact Guard.F rfl rfl rfl | exact Guard.gT rfl rfl rfl | exact Guard.gF rfl rfl rfl) (v_loadp SS) ?_
    refine s_gg (by first | exact Guard.T rfl rfl rfl | exact Guard.F rfl rfl rfl | exact Guard.gT rfl rfl rfl | exact Guard.gF rfl rfl rfl) (v_bin SS (h := bin_eqO (hxl.1.trans hr'.symm))) ?_
    refine s_val (v_and SS) ?_
    refine e_seq ?_
    repeat refine Tri.seq ?_
    refine Tri.cond rfl (fun h1 => ?_) (fun h1 => ?_)
    · skip
      repeat refine Tri.seq ?_
      refine Tri.region mixed ?_
      refine s_move SS ?_
      first | refine s_assignOw ?_ | refine s_val (v_assign SS) ?_
      refine e_seq ?_
      repeat refine Tri.seq ?_
      exact Tri.ret ⟨.inr rfl, ret1 rfl resV_tmp (iv_imp (by simp_all [Tm.kind, Tm.ref]))⟩
    · skip
      have hnext : handM way r path.length = handM way r j := by simp_all [Tm.kind, Tm.ref]
      refine Tri.skip ?_
      repeat refine Tri.seq ?_
      refine Tri.region mixed ?_
      refine s_move SS ?_
      refine s_val (v_int SS) ?_
      first | refine s_assignOw ?_ | refine s_val (v_assign SS) ?_
      refine e_seq ?_
      refine ⟨⟨j, by omega, hnext⟩, by show j < i.1; omega, le_of ?_ ?_⟩
      · repeat (first | exact SubE.nil | refine SubE.cons rfl (by first | rfl | (rw [wrap64 (by omega) (by omega)]; rfl) | (rw [wrap64 (by omega) (by omega)]; rw [show ((i.1 : Int) - 1 - 1) = (j : Int) - 1 by omega])) ?_)
      · repeat (first | exact SubH.nil | refine SubH.cons rfl (by first | rfl | (rw [wrap64 (by omega) (by omega)]; rfl) | (rw [wrap64 (by omega) (by omega)]; rw [show ((i.1 : Int) - 1 - 1) = (j : Int) - 1 by omega])) ?_)
  · skip
    refine Tri.exit ?_
    repeat refine Tri.seq ?_
    refine Tri.region mixed ?_
    refine s_val (v_assign SS) ?_
    refine e_seq ?_
    repeat refine Tri.seq ?_
    exact Tri.ret ⟨.inr rfl, ret1 rfl resV_tmp (iv_imp (by have := i.2.2; simp at h0; rw [this, show i.1 = 0 by omega]; rfl))⟩
end Go.Proofs.YtkcgkignhpepkaaDoor

/- A term in the place of work. -/
namespace Go.Proofs.YtkcgkignhpepkaaDoor
open Go Hs
variable {G : List (Nat × TypeId × Pu)}

def setKid : Tm → Nat → Tm → Tm
  | .mk k n r ks cs, j, x => .mk k n r (ks.set j x) cs
def fillM (way : List Tm) (path : List Nat) (lo : Nat) : Nat → Tm → Tm
  | 0, x => x
  | n + 1, x => if n < lo then x else match way[n]?, path[n]? with
    | some t, some k => fillM way path lo n (setKid t k x)
    | _, _ => x

theorem tms_set (lo : Nat) (ks : List Tm) (j : Nat) (x : Tm) : ((tmsc lo ks).map PV.pu).set j (.pu (tmc lo x)) = (tmsc lo (ks.set j x)).map .pu := by
  rw [tms_eq, tms_eq, List.map_set, List.map_set]
theorem tms_setl (ks : List Tm) (j : Nat) (x : Tm) : (ks.set j x).length = ks.length := by simp
instance {lo : Nat} {ks : List Tm} : NoLab (.row 30 ((tmsc lo ks).map .pu)) := NoLab.row (f := id)

theorem filled_c (path : List Nat) (way : List Tm) (lo hi : Nat) (x : Tm) (h1 : hi ≤ path.length) (h2 : hi ≤ way.length) (hp : ∀ i (h : i < hi), path[i] < way[i].kids.length) (hw : ∀ t ∈ way, t.kids.length < 2^30) (hl : path.length < 2^30) (hlo : lo < 2^40) :
    FCall Tryd.prog G 70 [.pu (siteP path way), iv .i64 lo, iv .i64 hi, .pu (tmc 0 x)] (.pu (tmc 0 (fillM way path lo hi x))) := by
  refine FCall.of_tri tbl 44 Tryd.func70 rfl rfl rfl fun w0 M ρ0 D0 => ?_
  repeat refine Tri.seq ?_
  refine Tri.region mixed ?_
  refine s_box SS 4 ?_
  refine s_box SS 7 ?_
  refine s_alloc SS 8 ?_
  refine e_seqN [4, 7, 8] ?_
  repeat refine Tri.seq ?_
  refine Tri.region mixed ?_
  refine s_move SS ?_
  refine s_val (v_int SS) ?_
  first | refine s_assignOw ?_ | refine s_val (v_assign SS) ?_
  refine e_seq ?_
  repeat refine Tri.seq ?_
  refine Tri.block (Tri.loopW (σ := {q : Nat × Tm // q.1 ≤ hi ∧ fillM way path lo hi x = fillM way path lo q.1 q.2}) (fun i => ⟨[(1, iv .i64 lo), (4, .ptr 4 [] 112), (7, .ptr 7 [] 30), (8, .ptr 8 [] 30), (9, iv .i64 ((i.1.1 : Int) - 1))], [(4, .var 112 (.pu (siteP path way))), (7, .var 30 (.pu (tmc 0 i.1.2))), (8, .var 30 (.agg 30 [iv .i64 0, iv .i64 0, .pu (refP Z32), .nilc, .nilc]))]⟩) (fun i => i.1.1) ⟨(hi, x), Nat.le_refl _, rfl⟩ ?_ ?_ (fun i => ?_))
  · repeat (first | exact .nil | refine .cons rfl (by first | exact .refl | (focus ((repeat constructor); done)) | (rw [wrap64 (by omega) (by omega)]; exact .refl)) ?_)
  · repeat (first | exact .nil | refine .cons rfl (by first | exact .refl | (focus ((repeat constructor); done)) | (rw [wrap64 (by omega) (by omega)]; exact .refl)) ?_)
  repeat refine Tri.seq ?_
  refine Tri.region mixed ?_
  refine s_move SS ?_
  refine s_move SS ?_
  refine s_val (v_int SS) ?_
  refine e_seq ?_
  repeat refine Tri.seq ?_
  refine Tri.cond rfl (fun h0 => ?_) (fun h0 => ?_)
  · skip
    have hlj : (lo : Int) ≤ (i.1.1 : Int) - 1 := by simpa using h0
    obtain ⟨j, hj⟩ : ∃ j, i.1.1 = j + 1 := ⟨i.1.1 - 1, by omega⟩
    have hi1 := i.2.1
    have hjw : j < way.length := by omega
    have hjp : j < path.length := by omega
    have hx := tms_get (lo := 0) hjw
    have hk := hp j (by omega)
    have hkl := hw _ (List.getElem_mem hjw)
    have hpg := path_get hjp
    have hst := i.2.2
    rw [hj] at hst
    simp only [fillM, List.getElem?_eq_getElem hjw, List.getElem?_eq_getElem hjp, if_neg (show ¬ j < lo by omega)] at hst
    generalize path[j] = m at hk hpg hst
    generalize way[j] = t at hx hk hkl hst
    obtain ⟨k, n, r, ks, cs⟩ := t
    simp only [Tm.kids] at hk hkl
    have hnext := hst
    have hkt : m < (tmsc 0 ks).length := by rw [tms_length]; exact hk
    have hto : ((i.1.1 : Int) - 1).toNat = j := by omega
    refine Tri.skip ?_
    repeat refine Tri.seq ?_
    refine Tri.block ?_
    repeat refine Tri.seq ?_
    refine Tri.region mixed ?_
    first | refine s_val (v_field SS) ?_ | refine s_val (v_fieldp SS) ?_
    first | refine s_load SS ?_ | refine s_val (v_loadp SS) ?_
    refine s_move SS ?_
    refine s_val (v_index SS (h0 := by omega) (hp := by rw [hto]; exact hx)) ?_
    first | refine s_val (v_load SS) ?_ | refine s_val (v_loadp SS) ?_
    refine s_alloc SS 10 ?_
    refine s_store SS ?_
    refine e_seqN [10] ?_
    repeat refine Tri.seq ?_
    refine Tri.region mixed ?_
    first | refine s_val (v_field SS) ?_ | refine s_val (v_fieldp SS) ?_
    first | refine s_load SS ?_ | refine s_val (v_loadp SS) ?_
    first | refine s_val (v_len SS) ?_ | refine s_val (v_lenx SS) ?_ | refine s_val (v_len0 SS) ?_ | refine s_val (v_lena SS) ?_
    refine s_make SS (n := (tmsc 0 ks).length) 27 (by rw [tms_length]; omega) (by rw [tms_length]; omega) ?_
    first | refine s_assignOw ?_ | refine s_val (v_assign SS) ?_
    refine e_seqN [27] ?_
    repeat refine Tri.seq ?_
    refine Tri.region mixed ?_
    refine s_move SS ?_
    first | refine s_val (v_field SS) ?_ | refine s_val (v_fieldp SS) ?_
    first | refine s_load SS ?_ | refine s_val (v_loadp SS) ?_
    refine s_copy SS ?_
    refine e_seq ?_
    repeat refine Tri.seq ?_
    refine Tri.region mixed ?_
    refine s_move SS ?_
    first | refine s_val (v_field SS) ?_ | refine s_val (v_fieldp SS) ?_
    first | refine s_load SS ?_ | refine s_val (v_loadp SS) ?_
    refine s_move SS ?_
    refine s_val (v_index SS (h0 := by omega) (hp := by rw [hto]; exact hpg)) ?_
    first | refine s_val (v_load SS) ?_ | refine s_val (v_loadp SS) ?_
    first | refine s_val (v_load SS) ?_ | refine s_val (v_loadp SS) ?_
    refine s_val (v_ixa SS) ?_
    refine s_storeR SS (i := m) (vs := (tmsc 0 ks).map .pu) (u0 := .pu (tmc 0 ks[m])) (by simp [tms_eq, hk]) ?_
    refine e_draw ?_
    rw [tms_set]
    repeat refine Tri.seq ?_
    refine Tri.region mixed ?_
    refine s_move SS ?_
    first | refine s_val (v_field SS) ?_ | refine s_val (v_fieldp SS) ?_
    first | refine s_storeOw SS ?_ | refine s_store SS ?_
    refine e_seq ?_
    repeat refine Tri.seq ?_
    refine Tri.region mixed ?_
    first | refine s_val (v_load SS) ?_ | refine s_val (v_loadp SS) ?_
    refine s_store SS ?_
    refine e_seq ?_
    refine Tri.freeze (lo := 0) (l := 27) (E := 30) (ps := tmsc 0 (ks.set m i.1.2)) (env' := [(1, iv .i64 lo), (4, .ptr 4 [] 112), (7, .ptr 7 [] 30), (8, .ptr 8 [] 30), (9, iv .i64 ((i.1.1 : Int) - 1))]) (heap' := [(4, .var 112 (.pu (siteP path way))), (7, .var 30 (.agg 30 [.pu (.leaf (.int .i64 k)), .pu (.leaf (.int .i64 n)), .pu (refP r), .pu (.sl 0 30 (tmsc 0 (ks.set m i.1.2))), .pu (.sl 0 34 (cssc 0 cs))])), (8, .var 30 (.agg 30 [iv .i64 0, iv .i64 0, .pu (refP Z32), .nilc, .nilc]))]) rfl (.inl rfl) ?_ (h2 := .cons rfl rfl rfl (.cons rfl rfl (by simp [frzOb, frzV, frzL, tms_length, tms_setl]) (.cons rfl rfl rfl .nil)))
    refine Tri.ghost (Ghost.wk (env' := [(1, iv .i64 lo), (4, .ptr 4 [] 112), (7, .ptr 7 [] 30), (8, .ptr 8 [] 30), (9, iv .i64 ((i.1.1 : Int) - 1))]) (heap' := [(4, .var 112 (.pu (siteP path way))), (7, .var 30 (.pu (tmc 0 (setKid (.mk k n r ks cs) m i.1.2)))), (8, .var 30 (.agg 30 [iv .i64 0, iv .i64 0, .pu (refP Z32), .nilc, .nilc]))]) (by repeat (first | exact .nil | refine .cons rfl .refl ?_)) (.cons rfl .refl (.cons rfl (by repeat constructor) (.cons rfl .refl .nil)))) ?_
    repeat refine Tri.seq ?_
    refine Tri.region mixed ?_
    refine s_move SS ?_
    refine s_val (v_int SS) ?_
    first | refine s_assignOw ?_ | refine s_val (v_assign SS) ?_
    refine e_seq ?_
    refine ⟨⟨(j, setKid (.mk k n r ks cs) m i.1.2), by omega, hnext⟩, by show j < i.1.1; omega, le_of ?_ ?_⟩
    · repeat (first | exact SubE.nil | refine SubE.cons rfl (by first | rfl | (rw [wrap64 (by omega) (by omega)]; rfl) | (rw [wrap64 (by omega) (by omega)]; rw [show ((i.1.1 : Int) - 1 - 1) = (j : Int) - 1 by omega])) ?_)
    · repeat (first | exact SubH.nil | refine SubH.cons rfl (by first | rfl | (rw [wrap64 (by omega) (by omega)]; rfl) | (rw [wrap64 (by omega) (by omega)]; rw [show ((i.1.1 : Int) - 1 - 1) = (j : Int) - 1 by omega])) ?_)
  · skip
    have hlj : (i.1.1 : Int) - 1 < (lo : Int) := by simpa using h0
    have hfin : fillM way path lo hi x = i.1.2 := i.2.2.trans (by
      cases hq : i.1.1 with
      | zero => rfl
      | succ j => rw [hq] at hlj; simp only [fillM]; rw [if_pos (by omega)])
    refine Tri.exit ?_
    repeat refine Tri.seq ?_
    refine Tri.region mixed ?_
    first | refine s_val (v_load SS) ?_ | refine s_val (v_loadp SS) ?_
    refine s_store SS ?_
    refine e_seq ?_
    repeat refine Tri.seq ?_
    exact Tri.ret ⟨.inr rfl, ret1 rfl resV_cell (VImp.of_eq (congrArg (fun t => PV.pu (tmc 0 t)) hfin.symm))⟩
end Go.Proofs.YtkcgkignhpepkaaDoor

/- The place of work: found. -/
namespace Go.Proofs.YtkcgkignhpepkaaDoor
open Go Hs
variable {G : List (Nat × TypeId × Pu)}

def manyM (k : Int) (n : Nat) : Nat := if k = 4 ∨ k = 10 ∨ k = 8 then n else if k = 5 ∨ k = 9 ∨ k = 11 ∨ k = 12 then 1 else 0
abbrev woO (k : Int) (n : Int) (r : List Int) (ks : List Tm) (cs : List Cs) : List (Nat × Ob) := [(811, .var 3 (iv .i64 (manyM k ks.length : Nat))), (812, .var 30 (.pu (tmc 0 (.mk k n r ks cs))))]
abbrev woV : PV := .fn (.func 98) [] [.ptr 811 [] 3, .ptr 812 [] 30]
theorem many_iv {P : Program} {k : Int} {n : Nat} {x : Int} (h : x = (manyM k n : Nat)) : ObImp P (.var 3 (iv .i64 x)) (.var 3 (iv .i64 (manyM k n : Nat))) := ob_iv h

theorem worked_c (k n : Int) (r : List Int) (ks : List Tm) (cs : List Cs) : HCall Tryd.prog G 90 [.pu (tmc 0 (.mk k n r ks cs))] [] [] woV (woO k n r ks cs) [812, 811] := by
  refine HCall.of_triD tbl 19 [] Tryd.func90 rfl rfl rfl fun w0 M ρ0 D0 => ?_
  repeat refine Tri.seq ?_
  refine Tri.region mixed ?_
  refine s_box SS 812 ?_
  refine s_val (v_assign SS) ?_
  refine e_seqN [812] ?_
  repeat refine Tri.seq ?_
  refine Tri.region mixed ?_
  refine s_alloc SS 811 ?_
  refine s_store SS ?_
  refine e_seqN [811] ?_
  repeat refine Tri.seq ?_
  refine Tri.region mixed ?_
  first | refine s_val (v_field SS) ?_ | refine s_val (v_fieldp SS) ?_
  first | refine s_val (v_load SS) ?_ | refine s_val (v_loadp SS) ?_
  refine e_seq ?_
  repeat refine Tri.seq ?_
  refine Tri.block ?_
  repeat refine Tri.seq ?_
  refine Tri.region mixed ?_
  refine s_val (v_int SS) ?_
  first | refine s_assignOw ?_ | refine s_val (v_assign SS) ?_
  refine e_seq ?_
  repeat refine Tri.seq ?_
  refine Tri.cond rfl (fun h0 => ?_) (fun h0 => ?_)
  · skip
    refine Tri.skip ?_
    repeat refine Tri.seq ?_
    refine Tri.cond rfl (fun h2 => ?_) (fun h2 => ?_)
    · skip
      repeat refine Tri.seq ?_
      refine Tri.region mixed ?_
      first | refine s_val (v_field SS) ?_ | refine s_val (v_fieldp SS) ?_
      first | refine s_load SS ?_ | refine s_val (v_loadp SS) ?_
      first | refine s_val (v_len SS) ?_ | refine s_val (v_lenx SS) ?_ | refine s_val (v_len0 SS) ?_ | refine s_val (v_lena SS) ?_
      refine s_store SS ?_
      refine e_seq ?_
      repeat refine Tri.seq ?_
      refine Tri.region mixed ?_
      refine s_val (v_mkFnD SS) ?_
      first | refine s_assignOw ?_ | refine s_val (v_assign SS) ?_
      refine e_seq ?_
      repeat refine Tri.seq ?_
      exact Tri.ret ⟨.inr rfl, ret1 rfl resV_tmp (VImp.refl _), .cons rfl (many_iv (by simp only [beq_iff_eq, beq_eq_false_iff_ne, ne_eq] at *; first | (simp_all [manyM, tms_length]; done) | (simp only [tms_length]; simp_all [manyM]))) (.cons rfl (ObImp.refl _) .nil)⟩
    · skip
      repeat refine Tri.seq ?_
      refine Tri.region mixed ?_
      refine s_val (v_int SS) ?_
      first | refine s_assignOw ?_ | refine s_val (v_assign SS) ?_
      refine e_seq ?_
      repeat refine Tri.seq ?_
      refine Tri.cond rfl (fun h3 => ?_) (fun h3 => ?_)
      · skip
        refine Tri.skip ?_
        repeat refine Tri.seq ?_
        refine Tri.cond rfl (fun h6 => ?_) (fun h6 => ?_)
        · skip
          repeat refine Tri.seq ?_
          refine Tri.region mixed ?_
          refine s_store SS ?_
          refine e_seq ?_
          repeat refine Tri.seq ?_
          refine Tri.region mixed ?_
          refine s_val (v_mkFnD SS) ?_
          first | refine s_assignOw ?_ | refine s_val (v_assign SS) ?_
          refine e_seq ?_
          repeat refine Tri.seq ?_
          exact Tri.ret ⟨.inr rfl, ret1 rfl resV_tmp (VImp.refl _), .cons rfl (many_iv (by simp only [beq_iff_eq, beq_eq_false_iff_ne, ne_eq] at *; first | (simp_all [manyM, tms_length]; done) | (simp only [tms_length]; simp_all [manyM]))) (.cons rfl (ObImp.refl _) .nil)⟩
        · skip
          refine Tri.skip ?_
          repeat refine Tri.seq ?_
          refine Tri.region mixed ?_
          refine s_val (v_mkFnD SS) ?_
          first | refine s_assignOw ?_ | refine s_val (v_assign SS) ?_
          refine e_seq ?_
          repeat refine Tri.seq ?_
          exact Tri.ret ⟨.inr rfl, ret1 rfl resV_tmp (VImp.refl _), .cons rfl (many_iv (by simp only [beq_iff_eq, beq_eq_false_iff_ne, ne_eq] at *; first | (simp_all [manyM, tms_length]; done) | (simp only [tms_length]; simp_all [manyM]))) (.cons rfl (ObImp.refl _) .nil)⟩
      · skip
        repeat refine Tri.seq ?_
        refine Tri.region mixed ?_
        refine s_val (v_int SS) ?_
        first | refine s_assignOw ?_ | refine s_val (v_assign SS) ?_
        refine e_seq ?_
        repeat refine Tri.seq ?_
        refine Tri.cond rfl (fun h4 => ?_) (fun h4 => ?_)
        · skip
          refine Tri.skip ?_
          repeat refine Tri.seq ?_
          refine Tri.cond rfl (fun h6 => ?_) (fun h6 => ?_)
          · skip
            repeat refine Tri.seq ?_
            refine Tri.region mixed ?_
            refine s_store SS ?_
            refine e_seq ?_
            repeat refine Tri.seq ?_
            refine Tri.region mixed ?_
            refine s_val (v_mkFnD SS) ?_
            first | refine s_assignOw ?_ | refine s_val (v_assign SS) ?_
            refine e_seq ?_
            repeat refine Tri.seq ?_
            exact Tri.ret ⟨.inr rfl, ret1 rfl resV_tmp (VImp.refl _), .cons rfl (many_iv (by simp only [beq_iff_eq, beq_eq_false_iff_ne, ne_eq] at *; first | (simp_all [manyM, tms_length]; done) | (simp only [tms_length]; simp_all [manyM]))) (.cons rfl (ObImp.refl _) .nil)⟩
          · skip
            refine Tri.skip ?_
            repeat refine Tri.seq ?_
            refine Tri.region mixed ?_
            refine s_val (v_mkFnD SS) ?_
            first | refine s_assignOw ?_ | refine s_val (v_assign SS) ?_
            refine e_seq ?_
            repeat refine Tri.seq ?_
            exact Tri.ret ⟨.inr rfl, ret1 rfl resV_tmp (VImp.refl _), .cons rfl (many_iv (by simp only [beq_iff_eq, beq_eq_false_iff_ne, ne_eq] at *; first | (simp_all [manyM, tms_length]; done) | (simp only [tms_length]; simp_all [manyM]))) (.cons rfl (ObImp.refl _) .nil)⟩
        · skip
          repeat refine Tri.seq ?_
          refine Tri.region mixed ?_
          refine s_val (v_int SS) ?_
          first | refine s_assignOw ?_ | refine s_val (v_assign SS) ?_
          refine e_seq ?_
          repeat refine Tri.seq ?_
          refine Tri.cond rfl (fun h5 => ?_) (fun h5 => ?_)
          · skip
            refine Tri.skip ?_
            repeat refine Tri.seq ?_
            refine Tri.cond rfl (fun h6 => ?_) (fun h6 => ?_)
            · skip
              repeat refine Tri.seq ?_
              refine Tri.region mixed ?_
              refine s_store SS ?_
              refine e_seq ?_
              repeat refine Tri.seq ?_
              refine Tri.region mixed ?_
              refine s_val (v_mkFnD SS) ?_
              first | refine s_assignOw ?_ | refine s_val (v_assign SS) ?_
              refine e_seq ?_
              repeat refine Tri.seq ?_
              exact Tri.ret ⟨.inr rfl, ret1 rfl resV_tmp (VImp.refl _), .cons rfl (many_iv (by simp only [beq_iff_eq, beq_eq_false_iff_ne, ne_eq] at *; first | (simp_all [manyM, tms_length]; done) | (simp only [tms_length]; simp_all [manyM]))) (.cons rfl (ObImp.refl _) .nil)⟩
            · skip
              refine Tri.skip ?_
              repeat refine Tri.seq ?_
              refine Tri.region mixed ?_
              refine s_val (v_mkFnD SS) ?_
              first | refine s_assignOw ?_ | refine s_val (v_assign SS) ?_
              refine e_seq ?_
              repeat refine Tri.seq ?_
              exact Tri.ret ⟨.inr rfl, ret1 rfl resV_tmp (VImp.refl _), .cons rfl (many_iv (by simp only [beq_iff_eq, beq_eq_false_iff_ne, ne_eq] at *; first | (simp_all [manyM, tms_length]; done) | (simp only [tms_length]; simp_all [manyM]))) (.cons rfl (ObImp.refl _) .nil)⟩
          · skip
            repeat refine Tri.seq ?_
            refine Tri.region mixed ?_
            refine s_val (v_int SS) ?_
            first | refine s_assignOw ?_ | refine s_val (v_assign SS) ?_
            refine e_seq ?_
            repeat refine Tri.seq ?_
            refine Tri.cond rfl (fun h6 => ?_) (fun h6 => ?_)
            · skip
              repeat refine Tri.seq ?_
              refine Tri.region mixed ?_
              refine s_store SS ?_
              refine e_seq ?_
              repeat refine Tri.seq ?_
              refine Tri.region mixed ?_
              refine s_val (v_mkFnD SS) ?_
              first | refine s_assignOw ?_ | refine s_val (v_assign SS) ?_
              refine e_seq ?_
              repeat refine Tri.seq ?_
              exact Tri.ret ⟨.inr rfl, ret1 rfl resV_tmp (VImp.refl _), .cons rfl (many_iv (by simp only [beq_iff_eq, beq_eq_false_iff_ne, ne_eq] at *; first | (simp_all [manyM, tms_length]; done) | (simp only [tms_length]; simp_all [manyM]))) (.cons rfl (ObImp.refl _) .nil)⟩
            · skip
              refine Tri.skip ?_
              repeat refine Tri.seq ?_
              refine Tri.region mixed ?_
              refine s_val (v_mkFnD SS) ?_
              first | refine s_assignOw ?_ | refine s_val (v_assign SS) ?_
              refine e_seq ?_
              repeat refine Tri.seq ?_
              exact Tri.ret ⟨.inr rfl, ret1 rfl resV_tmp (VImp.refl _), .cons rfl (many_iv (by simp only [beq_iff_eq, beq_eq_false_iff_ne, ne_eq] at *; first | (simp_all [manyM, tms_length]; done) | (simp only [tms_length]; simp_all [manyM]))) (.cons rfl (ObImp.refl _) .nil)⟩
  · skip
    repeat refine Tri.seq ?_
    refine Tri.region mixed ?_
    refine s_val (v_int SS) ?_
    first | refine s_assignOw ?_ | refine s_val (v_assign SS) ?_
    refine e_seq ?_
    repeat refine Tri.seq ?_
    refine Tri.cond rfl (fun h1 => ?_) (fun h1 => ?_)
    · skip
      refine Tri.skip ?_
      repeat refine Tri.seq ?_
      refine Tri.cond rfl (fun h2 => ?_) (fun h2 => ?_)
      · skip
        repeat refine Tri.seq ?_
        refine Tri.region mixed ?_
        first | refine s_val (v_field SS) ?_ | refine s_val (v_fieldp SS) ?_
        first | refine s_load SS ?_ | refine s_val (v_loadp SS) ?_
        first | refine s_val (v_len SS) ?_ | refine s_val (v_lenx SS) ?_ | refine s_val (v_len0 SS) ?_ | refine s_val (v_lena SS) ?_
        refine s_store SS ?_
        refine e_seq ?_
        repeat refine Tri.seq ?_
        refine Tri.region mixed ?_
        refine s_val (v_mkFnD SS) ?_
        first | refine s_assignOw ?_ | refine s_val (v_assign SS) ?_
        refine e_seq ?_
        repeat refine Tri.seq ?_
        exact Tri.ret ⟨.inr rfl, ret1 rfl resV_tmp (VImp.refl _), .cons rfl (many_iv (by simp only [beq_iff_eq, beq_eq_false_iff_ne, ne_eq] at *; first | (simp_all [manyM, tms_length]; done) | (simp only [tms_length]; simp_all [manyM]))) (.cons rfl (ObImp.refl _) .nil)⟩
      · skip
        repeat refine Tri.seq ?_
        refine Tri.region mixed ?_
        refine s_val (v_int SS) ?_
        first | refine s_assignOw ?_ | refine s_val (v_assign SS) ?_
        refine e_seq ?_
        repeat refine Tri.seq ?_
        refine Tri.cond rfl (fun h3 => ?_) (fun h3 => ?_)
        · skip
          refine Tri.skip ?_
          repeat refine Tri.seq ?_
          refine Tri.cond rfl (fun h6 => ?_) (fun h6 => ?_)
          · skip
            repeat refine Tri.seq ?_
            refine Tri.region mixed ?_
            refine s_store SS ?_
            refine e_seq ?_
            repeat refine Tri.seq ?_
            refine Tri.region mixed ?_
            refine s_val (v_mkFnD SS) ?_
            first | refine s_assignOw ?_ | refine s_val (v_assign SS) ?_
            refine e_seq ?_
            repeat refine Tri.seq ?_
            exact Tri.ret ⟨.inr rfl, ret1 rfl resV_tmp (VImp.refl _), .cons rfl (many_iv (by simp only [beq_iff_eq, beq_eq_false_iff_ne, ne_eq] at *; first | (simp_all [manyM, tms_length]; done) | (simp only [tms_length]; simp_all [manyM]))) (.cons rfl (ObImp.refl _) .nil)⟩
          · skip
            refine Tri.skip ?_
            repeat refine Tri.seq ?_
            refine Tri.region mixed ?_
            refine s_val (v_mkFnD SS) ?_
            first | refine s_assignOw ?_ | refine s_val (v_assign SS) ?_
            refine e_seq ?_
            repeat refine Tri.seq ?_
            exact Tri.ret ⟨.inr rfl, ret1 rfl resV_tmp (VImp.refl _), .cons rfl (many_iv (by simp only [beq_iff_eq, beq_eq_false_iff_ne, ne_eq] at *; first | (simp_all [manyM, tms_length]; done) | (simp only [tms_length]; simp_all [manyM]))) (.cons rfl (ObImp.refl _) .nil)⟩
        · skip
          repeat refine Tri.seq ?_
          refine Tri.region mixed ?_
          refine s_val (v_int SS) ?_
          first | refine s_assignOw ?_ | refine s_val (v_assign SS) ?_
          refine e_seq ?_
          repeat refine Tri.seq ?_
          refine Tri.cond rfl (fun h4 => ?_) (fun h4 => ?_)
          · skip
            refine Tri.skip ?_
            repeat refine Tri.seq ?_
            refine Tri.cond rfl (fun h6 => ?_) (fun h6 => ?_)
            · skip
              repeat refine Tri.seq ?_
              refine Tri.region mixed ?_
              refine s_store SS ?_
              refine e_seq ?_
              repeat refine Tri.seq ?_
              refine Tri.region mixed ?_
              refine s_val (v_mkFnD SS) ?_
              first | refine s_assignOw ?_ | refine s_val (v_assign SS) ?_
              refine e_seq ?_
              repeat refine Tri.seq ?_
              exact Tri.ret ⟨.inr rfl, ret1 rfl resV_tmp (VImp.refl _), .cons rfl (many_iv (by simp only [beq_iff_eq, beq_eq_false_iff_ne, ne_eq] at *; first | (simp_all [manyM, tms_length]; done) | (simp only [tms_length]; simp_all [manyM]))) (.cons rfl (ObImp.refl _) .nil)⟩
            · skip
              refine Tri.skip ?_
              repeat refine Tri.seq ?_
              refine Tri.region mixed ?_
              refine s_val (v_mkFnD SS) ?_
              first | refine s_assignOw ?_ | refine s_val (v_assign SS) ?_
              refine e_seq ?_
              repeat refine Tri.seq ?_
              exact Tri.ret ⟨.inr rfl, ret1 rfl resV_tmp (VImp.refl _), .cons rfl (many_iv (by simp only [beq_iff_eq, beq_eq_false_iff_ne, ne_eq] at *; first | (simp_all [manyM, tms_length]; done) | (simp only [tms_length]; simp_all [manyM]))) (.cons rfl (ObImp.refl _) .nil)⟩
          · skip
            repeat refine Tri.seq ?_
            refine Tri.region mixed ?_
            refine s_val (v_int SS) ?_
            first | refine s_assignOw ?_ | refine s_val (v_assign SS) ?_
            refine e_seq ?_
            repeat refine Tri.seq ?_
            refine Tri.cond rfl (fun h5 => ?_) (fun h5 => ?_)
            · skip
              refine Tri.skip ?_
              repeat refine Tri.seq ?_
              refine Tri.cond rfl (fun h6 => ?_) (fun h6 => ?_)
              · skip
                repeat refine Tri.seq ?_
                refine Tri.region mixed ?_
                refine s_store SS ?_
                refine e_seq ?_
                repeat refine Tri.seq ?_
                refine Tri.region mixed ?_
                refine s_val (v_mkFnD SS) ?_
                first | refine s_assignOw ?_ | refine s_val (v_assign SS) ?_
                refine e_seq ?_
                repeat refine Tri.seq ?_
                exact Tri.ret ⟨.inr rfl, ret1 rfl resV_tmp (VImp.refl _), .cons rfl (many_iv (by simp only [beq_iff_eq, beq_eq_false_iff_ne, ne_eq] at *; first | (simp_all [manyM, tms_length]; done) | (simp only [tms_length]; simp_all [manyM]))) (.cons rfl (ObImp.refl _) .nil)⟩
              · skip
                refine Tri.skip ?_
                repeat refine Tri.seq ?_
                refine Tri.region mixed ?_
                refine s_val (v_mkFnD SS) ?_
                first | refine s_assignOw ?_ | refine s_val (v_assign SS) ?_
                refine e_seq ?_
                repeat refine Tri.seq ?_
                exact Tri.ret ⟨.inr rfl, ret1 rfl resV_tmp (VImp.refl _), .cons rfl (many_iv (by simp only [beq_iff_eq, beq_eq_false_iff_ne, ne_eq] at *; first | (simp_all [manyM, tms_length]; done) | (simp only [tms_length]; simp_all [manyM]))) (.cons rfl (ObImp.refl _) .nil)⟩
            · skip
              repeat refine Tri.seq ?_
              refine Tri.region mixed ?_
              refine s_val (v_int SS) ?_
              first | refine s_assignOw ?_ | refine s_val (v_assign SS) ?_
              refine e_seq ?_
              repeat refine Tri.seq ?_
              refine Tri.cond rfl (fun h6 => ?_) (fun h6 => ?_)
              · skip
                repeat refine Tri.seq ?_
                refine Tri.region mixed ?_
                refine s_store SS ?_
                refine e_seq ?_
                repeat refine Tri.seq ?_
                refine Tri.region mixed ?_
                refine s_val (v_mkFnD SS) ?_
                first | refine s_assignOw ?_ | refine s_val (v_assign SS) ?_
                refine e_seq ?_
                repeat refine Tri.seq ?_
                exact Tri.ret ⟨.inr rfl, ret1 rfl resV_tmp (VImp.refl _), .cons rfl (many_iv (by simp only [beq_iff_eq, beq_eq_false_iff_ne, ne_eq] at *; first | (simp_all [manyM, tms_length]; done) | (simp only [tms_length]; simp_all [manyM]))) (.cons rfl (ObImp.refl _) .nil)⟩
              · skip
                refine Tri.skip ?_
                repeat refine Tri.seq ?_
                refine Tri.region mixed ?_
                refine s_val (v_mkFnD SS) ?_
                first | refine s_assignOw ?_ | refine s_val (v_assign SS) ?_
                refine e_seq ?_
                repeat refine Tri.seq ?_
                exact Tri.ret ⟨.inr rfl, ret1 rfl resV_tmp (VImp.refl _), .cons rfl (many_iv (by simp only [beq_iff_eq, beq_eq_false_iff_ne, ne_eq] at *; first | (simp_all [manyM, tms_length]; done) | (simp only [tms_length]; simp_all [manyM]))) (.cons rfl (ObImp.refl _) .nil)⟩
    · skip
      repeat refine Tri.seq ?_
      refine Tri.region mixed ?_
      refine s_val (v_int SS) ?_
      first | refine s_assignOw ?_ | refine s_val (v_assign SS) ?_
      refine e_seq ?_
      repeat refine Tri.seq ?_
      refine Tri.cond rfl (fun h2 => ?_) (fun h2 => ?_)
      · skip
        repeat refine Tri.seq ?_
        refine Tri.region mixed ?_
        first | refine s_val (v_field SS) ?_ | refine s_val (v_fieldp SS) ?_
        first | refine s_load SS ?_ | refine s_val (v_loadp SS) ?_
        first | refine s_val (v_len SS) ?_ | refine s_val (v_lenx SS) ?_ | refine s_val (v_len0 SS) ?_ | refine s_val (v_lena SS) ?_
        refine s_store SS ?_
        refine e_seq ?_
        repeat refine Tri.seq ?_
        refine Tri.region mixed ?_
        refine s_val (v_mkFnD SS) ?_
        first | refine s_assignOw ?_ | refine s_val (v_assign SS) ?_
        refine e_seq ?_
        repeat refine Tri.seq ?_
        exact Tri.ret ⟨.inr rfl, ret1 rfl resV_tmp (VImp.refl _), .cons rfl (many_iv (by simp only [beq_iff_eq, beq_eq_false_iff_ne, ne_eq] at *; first | (simp_all [manyM, tms_length]; done) | (simp only [tms_length]; simp_all [manyM]))) (.cons rfl (ObImp.refl _) .nil)⟩
      · skip
        repeat refine Tri.seq ?_
        refine Tri.region mixed ?_
        refine s_val (v_int SS) ?_
        first | refine s_assignOw ?_ | refine s_val (v_assign SS) ?_
        refine e_seq ?_
        repeat refine Tri.seq ?_
        refine Tri.cond rfl (fun h3 => ?_) (fun h3 => ?_)
        · skip
          refine Tri.skip ?_
          repeat refine Tri.seq ?_
          refine Tri.cond rfl (fun h6 => ?_) (fun h6 => ?_)
          · skip
            repeat refine Tri.seq ?_
            refine Tri.region mixed ?_
            refine s_store SS ?_
            refine e_seq ?_
            repeat refine Tri.seq ?_
            refine Tri.region mixed ?_
            refine s_val (v_mkFnD SS) ?_
            first | refine s_assignOw ?_ | refine s_val (v_assign SS) ?_
            refine e_seq ?_
            repeat refine Tri.seq ?_
            exact Tri.ret ⟨.inr rfl, ret1 rfl resV_tmp (VImp.refl _), .cons rfl (many_iv (by simp only [beq_iff_eq, beq_eq_false_iff_ne, ne_eq] at *; first | (simp_all [manyM, tms_length]; done) | (simp only [tms_length]; simp_all [manyM]))) (.cons rfl (ObImp.refl _) .nil)⟩
          · skip
            refine Tri.skip ?_
            repeat refine Tri.seq ?_
            refine Tri.region mixed ?_
            refine s_val (v_mkFnD SS) ?_
            first | refine s_assignOw ?_ | refine s_val (v_assign SS) ?_
            refine e_seq ?_
            repeat refine Tri.seq ?_
            exact Tri.ret ⟨.inr rfl, ret1 rfl resV_tmp (VImp.refl _), .cons rfl (many_iv (by simp only [beq_iff_eq, beq_eq_false_iff_ne, ne_eq] at *; first | (simp_all [manyM, tms_length]; done) | (simp only [tms_length]; simp_all [manyM]))) (.cons rfl (ObImp.refl _) .nil)⟩
        · skip
          repeat refine Tri.seq ?_
          refine Tri.region mixed ?_
          refine s_val (v_int SS) ?_
          first | refine s_assignOw ?_ | refine s_val (v_assign SS) ?_
          refine e_seq ?_
          repeat refine Tri.seq ?_
          refine Tri.cond rfl (fun h4 => ?_) (fun h4 => ?_)
          · skip
            refine Tri.skip ?_
            repeat refine Tri.seq ?_
            refine Tri.cond rfl (fun h6 => ?_) (fun h6 => ?_)
            · skip
              repeat refine Tri.seq ?_
              refine Tri.region mixed ?_
              refine s_store SS ?_
              refine e_seq ?_
              repeat refine Tri.seq ?_
              refine Tri.region mixed ?_
              refine s_val (v_mkFnD SS) ?_
              first | refine s_assignOw ?_ | refine s_val (v_assign SS) ?_
              refine e_seq ?_
              repeat refine Tri.seq ?_
              exact Tri.ret ⟨.inr rfl, ret1 rfl resV_tmp (VImp.refl _), .cons rfl (many_iv (by simp only [beq_iff_eq, beq_eq_false_iff_ne, ne_eq] at *; first | (simp_all [manyM, tms_length]; done) | (simp only [tms_length]; simp_all [manyM]))) (.cons rfl (ObImp.refl _) .nil)⟩
            · skip
              refine Tri.skip ?_
              repeat refine Tri.seq ?_
              refine Tri.region mixed ?_
              refine s_val (v_mkFnD SS) ?_
              first | refine s_assignOw ?_ | refine s_val (v_assign SS) ?_
              refine e_seq ?_
              repeat refine Tri.seq ?_
              exact Tri.ret ⟨.inr rfl, ret1 rfl resV_tmp (VImp.refl _), .cons rfl (many_iv (by simp only [beq_iff_eq, beq_eq_false_iff_ne, ne_eq] at *; first | (simp_all [manyM, tms_length]; done) | (simp only [tms_length]; simp_all [manyM]))) (.cons rfl (ObImp.refl _) .nil)⟩
          · skip
            repeat refine Tri.seq ?_
            refine Tri.region mixed ?_
            refine s_val (v_int SS) ?_
            first | refine s_assignOw ?_ | refine s_val (v_assign SS) ?_
            refine e_seq ?_
            repeat refine Tri.seq ?_
            refine Tri.cond rfl (fun h5 => ?_) (fun h5 => ?_)
            · skip
              refine Tri.skip ?_
              repeat refine Tri.seq ?_
              refine Tri.cond rfl (fun h6 => ?_) (fun h6 => ?_)
              · skip
                repeat refine Tri.seq ?_
                refine Tri.region mixed ?_
                refine s_store SS ?_
                refine e_seq ?_
                repeat refine Tri.seq ?_
                refine Tri.region mixed ?_
                refine s_val (v_mkFnD SS) ?_
                first | refine s_assignOw ?_ | refine s_val (v_assign SS) ?_
                refine e_seq ?_
                repeat refine Tri.seq ?_
                exact Tri.ret ⟨.inr rfl, ret1 rfl resV_tmp (VImp.refl _), .cons rfl (many_iv (by simp only [beq_iff_eq, beq_eq_false_iff_ne, ne_eq] at *; first | (simp_all [manyM, tms_length]; done) | (simp only [tms_length]; simp_all [manyM]))) (.cons rfl (ObImp.refl _) .nil)⟩
              · skip
                refine Tri.skip ?_
                repeat refine Tri.seq ?_
                refine Tri.region mixed ?_
                refine s_val (v_mkFnD SS) ?_
                first | refine s_assignOw ?_ | refine s_val (v_assign SS) ?_
                refine e_seq ?_
                repeat refine Tri.seq ?_
                exact Tri.ret ⟨.inr rfl, ret1 rfl resV_tmp (VImp.refl _), .cons rfl (many_iv (by simp only [beq_iff_eq, beq_eq_false_iff_ne, ne_eq] at *; first | (simp_all [manyM, tms_length]; done) | (simp only [tms_length]; simp_all [manyM]))) (.cons rfl (ObImp.refl _) .nil)⟩
            · skip
              repeat refine Tri.seq ?_
              refine Tri.region mixed ?_
              refine s_val (v_int SS) ?_
              first | refine s_assignOw ?_ | refine s_val (v_assign SS) ?_
              refine e_seq ?_
              repeat refine Tri.seq ?_
              refine Tri.cond rfl (fun h6 => ?_) (fun h6 => ?_)
              · skip
                repeat refine Tri.seq ?_
                refine Tri.region mixed ?_
                refine s_store SS ?_
                refine e_seq ?_
                repeat refine Tri.seq ?_
                refine Tri.region mixed ?_
                refine s_val (v_mkFnD SS) ?_
                first | refine s_assignOw ?_ | refine s_val (v_assign SS) ?_
                refine e_seq ?_
                repeat refine Tri.seq ?_
                exact Tri.ret ⟨.inr rfl, ret1 rfl resV_tmp (VImp.refl _), .cons rfl (many_iv (by simp only [beq_iff_eq, beq_eq_false_iff_ne, ne_eq] at *; first | (simp_all [manyM, tms_length]; done) | (simp only [tms_length]; simp_all [manyM]))) (.cons rfl (ObImp.refl _) .nil)⟩
              · skip
                refine Tri.skip ?_
                repeat refine Tri.seq ?_
                refine Tri.region mixed ?_
                refine s_val (v_mkFnD SS) ?_
                first | refine s_assignOw ?_ | refine s_val (v_assign SS) ?_
                refine e_seq ?_
                repeat refine Tri.seq ?_
                exact Tri.ret ⟨.inr rfl, ret1 rfl resV_tmp (VImp.refl _), .cons rfl (many_iv (by simp only [beq_iff_eq, beq_eq_false_iff_ne, ne_eq] at *; first | (simp_all [manyM, tms_length]; done) | (simp only [tms_length]; simp_all [manyM]))) (.cons rfl (ObImp.refl _) .nil)⟩

/-- The objects of the loop: the term where one is, and the path to it. -/
abbrev plO (acc : List Nat) (t : Tm) : List (Nat × Ob) := [(1, .var 30 (.pu (tmc 0 t))), (3, .var 73 (.ow 0 3 (pathL acc)))]
structure Wi where
  i : Nat
  t : Tm
def wiL (t : Tm) : List Wi := match t with
  | .mk k _ _ ks _ => (ks.take (manyM k ks.length)).mapIdx fun i x => ⟨i, x⟩
def wiE (x : Wi) : List PV := [iv .i64 x.i, .pu (tmc 0 x.t)]
def wOut (x : Wi) : Option Wi := if valM x.t then none else some x
def wOb (acc : List Nat) (x : Wi) : List (Nat × Ob) := plO (acc ++ [x.i]) x.t
def rOfX (c : Code) (r : Loop) : Option Wi → Loop
  | none => r
  | some _ => doneL r c
def aOf (acc : List Nat) : Option Wi → List Nat
  | none => acc
  | some x => acc ++ [x.i]
def tOf (t : Tm) : Option Wi → Tm
  | none => t
  | some x => x.t
theorem yc_w {P : Program} {X : Ctx} {l lam : Nat} {r : Loop} {HR : List (Nat × Ob)} {out : Wi → Option Wi} {acc : List Nat} {t : Tm} {c : Code} {x : Wi} (h : YC P X l lam r HR (plO acc t) wiE out (fun _ => c) (wOb acc) x) :
    YCall P X l (wiE x) HR ((lam, .loop r) :: plO acc t) (bv (out x).isNone) [(lam, .loop (rOfX c r (out x))), (1, .var 30 (.pu (tmc 0 (tOf t (out x))))), (3, .var 73 (.ow 0 3 (pathL (aOf acc (out x)))))] := by
  unfold YC at h
  cases ho : out x with
  | none => rw [ho] at h; exact h
  | some e => rw [ho] at h; exact h

theorem worked1_c (k n : Int) (r : List Int) (ks : List Tm) (cs : List Cs) (hm : manyM k ks.length ≤ ks.length) (hl : ks.length < 2^40) (acc : List Nat) (out : Wi → Option Wi) :
    IterC Tryd.prog G 98 [.ptr 811 [] 3, .ptr 812 [] 30] 900 [811, 812, 1, 3, 900] (woO k n r ks cs) (plO acc (.mk k n r ks cs)) (wiL (.mk k n r ks cs)) wiE out (fun _ => .exit 1) (wOb acc) := by
  refine IterC.of_tri tbl 19 Tryd.func98 rfl rfl (fun r z => by cases z <;> rfl) fun l rc w0 M ρ0 D0 hy => ?_
  have hL : (wiL (.mk k n r ks cs)).length = manyM k ks.length := by simp [wiL]; omega
  have hk : ∀ i (hi : i < manyM k ks.length), (wiL (.mk k n r ks cs))[i]'(by omega) = ⟨i, ks[i]'(by omega)⟩ := fun i hi => by simp [wiL]
  repeat refine Tri.seq ?_
  refine Tri.region mixed ?_
  first | refine s_val (v_load SS) ?_ | refine s_val (v_loadp SS) ?_
  refine s_val (v_move SS) ?_
  refine e_seq ?_
  repeat refine Tri.seq ?_
  refine Tri.block (Tri.loopW (σ := {i : Nat // ∀ j (hj : j < i) (h : j < manyM k ks.length), out ⟨j, ks[j]'(by omega)⟩ = none}) (fun i => ⟨[(0, .fn (.yield l) [] []), (2, .ptr 812 [] 30), (5, iv .i64 (manyM k ks.length : Nat)), (6, iv .i64 i.1)], [(811, .var 3 (iv .i64 (manyM k ks.length : Nat))), (812, .var 30 (.pu (tmc 0 (.mk k n r ks cs)))), (900, .loop rc), (1, .var 30 (.pu (tmc 0 (.mk k n r ks cs)))), (3, .var 73 (.ow 0 3 (pathL acc)))]⟩) (fun i => manyM k ks.length - i.1) ⟨0, by intro j hj; omega⟩ ?_ ?_ (fun i => ?_))
  · repeat (first | exact .nil | refine .cons rfl (by first | exact .refl | (focus ((repeat constructor); done))) ?_)
  · repeat (first | exact .nil | refine .cons rfl (by first | exact .refl | (focus ((repeat constructor); done))) ?_)
  repeat refine Tri.seq ?_
  refine Tri.region mixed ?_
  refine s_val (v_int SS) ?_
  refine e_seq ?_
  repeat refine Tri.seq ?_
  refine Tri.cond rfl (fun h0 => ?_) (fun h0 => ?_)
  · skip
    have hi : i.1 < manyM k ks.length := by simpa using h0
    have hi' : i.1 < ks.length := by omega
    have hy' := yc_w (hy ⟨i.1, ks[i.1]⟩ (by rw [← hk i.1 hi]; exact List.getElem_mem _))
    refine Tri.skip ?_
    repeat refine Tri.seq ?_
    refine Tri.block ?_
    repeat refine Tri.seq ?_
    refine Tri.region mixed ?_
    refine s_move SS ?_
    first | refine s_assignOw ?_ | refine s_val (v_assign SS) ?_
    refine e_seq ?_
    repeat refine Tri.seq ?_
    refine Tri.region mixed ?_
    refine s_move SS ?_
    refine s_move SS ?_
    first | refine s_val (v_field SS) ?_ | refine s_val (v_fieldp SS) ?_
    first | refine s_load SS ?_ | refine s_val (v_loadp SS) ?_
    refine s_move SS ?_
    refine s_val (v_index SS (h0 := by omega) (hp := tms_get hi')) ?_
    first | refine s_val (v_load SS) ?_ | refine s_val (v_loadp SS) ?_
    refine s_yield hy' ?_
    refine s_val (v_not SS) ?_
    refine e_seq ?_
    repeat refine Tri.seq ?_
    refine Tri.cond rfl (fun h1 => ?_) (fun h1 => ?_)
    · skip
      obtain ⟨e, he⟩ : ∃ e, out ⟨i.1, ks[i.1]⟩ = some e := by
        cases ho : out ⟨i.1, ks[i.1]⟩ with
        | none => rw [ho] at h1; cases h1
        | some e => exact ⟨e, rfl⟩
      have hfin : (wiL (.mk k n r ks cs)).findSome? out = some e := find_at (i := i.1) (by rw [hL]; omega) (fun j hj => by rw [hk j (by omega)]; exact i.2 j hj (by omega)) (by rw [hk i.1 hi]; exact he)
      rw [hfin]
      repeat refine Tri.seq ?_
      exact Tri.ret ⟨.inr rfl, ret0, .cons rfl (by rw [he]; exact ObImp.refl _) (.cons rfl (by rw [he]; exact ObImp.refl _) (.cons rfl (by rw [he]; exact ObImp.refl _) .nil))⟩
    · skip
      have he : out ⟨i.1, ks[i.1]⟩ = none := by
        cases ho : out ⟨i.1, ks[i.1]⟩ with
        | none => rfl
        | some e => rw [ho] at h1; cases h1
      have hnext : ∀ j (hj : j < i.1 + 1) (h : j < manyM k ks.length), out ⟨j, ks[j]'(by omega)⟩ = none := fun j hj h => by
        rcases Nat.lt_or_ge j i.1 with h' | h'
        · exact i.2 j h' h
        · obtain rfl : j = i.1 := by omega
          exact he
      refine Tri.skip ?_
      repeat refine Tri.seq ?_
      refine Tri.region mixed ?_
      refine s_val (v_int SS) ?_
      refine s_move SS ?_
      refine e_seq ?_
      refine ⟨⟨i.1 + 1, hnext⟩, by show manyM k ks.length - (i.1 + 1) < manyM k ks.length - i.1; omega, le_of ?_ ?_⟩
      · repeat (first | exact SubE.nil | refine SubE.cons rfl (by first | rfl | (rw [wrap64 (by omega) (by omega)]; rfl) | (rw [he]; rfl)) ?_)
      · repeat (first | exact SubH.nil | refine SubH.cons rfl (by first | rfl | (rw [wrap64 (by omega) (by omega)]; rfl) | (rw [he]; rfl)) ?_)
  · skip
    have hfin : (wiL (.mk k n r ks cs)).findSome? out = none := find_none fun j hj => by
      rw [hL] at hj
      rw [hk j hj]; exact i.2 j (by simp at h0; omega) hj
    rw [hfin]
    refine Tri.exit ?_
    exact ⟨.inl rfl, ret0, .cons rfl (ObImp.refl _) (.cons rfl (ObImp.refl _) (.cons rfl (ObImp.refl _) .nil))⟩
end Go.Proofs.YtkcgkignhpepkaaDoor

