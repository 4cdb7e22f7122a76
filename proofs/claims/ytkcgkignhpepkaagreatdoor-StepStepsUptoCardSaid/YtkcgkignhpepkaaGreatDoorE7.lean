/- Part 7 of the proof: lemmas on walks and the walks of the functions, in their order. -/
import Derived.Test.YtkcgkignhpepkaaGreatDoorE6
import Derived.Test.YtkcgkignhpepkaaGreatDoorRows
import Derived.Test.YtkcgkignhpepkaaGreatDoorCards
import Derived.Test.YtkcgkignhpepkaaGreatDoorTie
import Derived.WalkKit
import Derived.ProofKit
import Derived.OpenShut
import Derived.Lib.LaidTab
import Derived.LaidSub
import Derived.Deep.DeepHandedRow
set_option linter.unusedSimpArgs false
set_option linter.unusedVariables false
/- step.Step and step.Trace. -/
namespace Go.Proofs.YtkcgkignhpepkaaGreatDoor
open Go Hs
variable {G : List (Nat × TypeId × Pu)}
def stepM (ts : List KT) (t : Tm) : Tm × Int :=
 if stepCheckM ts t = 0 then (if valM t = true then (noneM, 6) else if 7 < kindM ts t (placeM t) then (noneM, 10) else if checkM (nextM ts t) 60 8 = 0 then (nextM ts t, 0) else (noneM, 11)) else (noneM, stepCheckM ts t)
theorem ru_labs (a b : Pu) (ts : List KT) : heapLabs (ruO a b ts) = heapLabs (ruO a b []) := by
 have h : (Ob.map 28 32 (mapE (bodL ts))).labs = [] := NoLab.ok
 have h0 : (Ob.map 28 32 (mapE (bodL []))).labs = [] := NoLab.ok
 simp only [ruO, heapLabs, h, h0]
 rfl
set_option maxHeartbeats 4000000 in
theorem step_c (a b : Pu) (ts : List KT) (t : Tm) (hts : ∀ x ∈ ts, tsize x.2 < 2^40) (hN : tsize t < 2^40) : FCallN Tryz.prog G 46 [.pu (wdP a b ts), .pu (tmc 0 t)] (fun m => stepV m (stepM ts t)) := by
 refine FCallN.of_tri tbl 45 Tryz.func46 rfl rfl (fun _ => rfl) fun w0 M ρ0 D0 hM => ?_
 refine Tri.fact (i := 0) rfl (fun D w x h => wd_wf h) (fun hwd => ?_);refine yR ?_;refine s_box SS 2 ?_;refine s_box SS 3 ?_;refine s_alloc SS 4 ?_;refine yB ?_;refine e_seqN [2, 3, 4] ?_;refine yR ?_;refine yL ?_;refine yL ?_;refine s_val (v_callD (fun _ => stepCheck_c a b ts t hts hN)) ?_;refine yA ?_;refine e_seq ?_;refine yR ?_;refine yM ?_;refine yI ?_;refine e_seq ?_;refine tQ ?_;refine Tri.cond rfl (fun h0 => ?_) (fun h0 => ?_)
 ·skip
  have h0' : ¬ stepCheckM ts t = 0 := by simpa using h0
  have hfin : stepM ts t = (noneM, stepCheckM ts t) := by rw [stepM, if_neg h0']
  refine yR ?_;refine yT ?_;refine yM ?_;refine yS ?_;refine yA ?_;refine e_seq ?_;refine tQ ?_;exact Tri.ret ⟨.inr rfl, ret2 rfl resV_cell ((by rw [hfin]; exact ToPu.imp (by unfold noneM; repeat constructor))) resV_tmp ((by rw [hfin]; exact VImp.refl _))⟩
 ·skip
  have h0' : stepCheckM ts t = 0 := by simpa using h0
  obtain ⟨k1, k2, k3, k4⟩ := stepCheck_ok h0'
  obtain ⟨k5, k6⟩ := check_sh k4
  refine Tri.skip ?_;refine yR ?_;refine yL ?_;refine s_val (v_callD (fun _ => value_c _ t (Nat.le_refl _) (by omega))) ?_;refine e_seq ?_;refine tQ ?_;refine Tri.cond rfl (fun h1 => ?_) (fun h1 => ?_)
  ·skip
   have hfin : stepM ts t = (noneM, 6) := by rw [stepM, if_pos h0', if_pos h1]
   refine yR ?_;refine yT ?_;refine yS ?_;refine yB ?_;refine e_seq ?_;refine tQ ?_;exact Tri.ret ⟨.inr rfl, ret2 rfl resV_cell ((by rw [hfin]; exact ToPu.imp (by unfold noneM; repeat constructor))) resV_tmp ((by rw [hfin]; exact VImp.refl _))⟩
  ·skip
   have hok := place_ok k5
   have hN' : tsize t < 2^28 := by omega
   have hwsh := sh_walk (p := placeM t) k5
   have hkc := kind_c (G := G) a b ts hwd t (placeM t) hok hN' (by generalize walkM t (placeM t) = w at hwsh; obtain ⟨k, n, r, ks, cs⟩ := w; exact hwsh.1) (by generalize walkM t (placeM t) = w at hwsh; obtain ⟨k, n, r, ks, cs⟩ := w; exact hwsh.2.1)
   have hk19 := (kind_inv (show kindW ts (wayM t (placeM t)) (placeM t).length (walkM t (placeM t)) = kindM ts t (placeM t) from rfl)).2.2.2.2.2.2.2.1
   have hst : stepM ts t = if 7 < kindM ts t (placeM t) then (noneM, 10) else if checkM (nextM ts t) 60 8 = 0 then (nextM ts t, 0) else (noneM, 11) := by rw [stepM, if_pos h0', if_neg (by rw [h1]; decide)]
   generalize hkk : kindM ts t (placeM t) = kk at hkc hk19 hst
   refine Tri.skip ?_;refine yR ?_;refine yL ?_;refine s_call (opened_c a b ts k3 (by omega)) ?_;refine yL ?_;refine s_val (v_callD (fun _ => found_c t k5 (by omega))) ?_;refine s_alloc SS 8 ?_;refine yA ?_;refine yS ?_;refine e_drawN [822, 820, 823, 831, 832, 833, 834, 835, 836, 8] ?_ (h1 := by rw [ru_labs]; kernel_rfl) (h2 := by rw [ru_labs]; kernel_rfl);refine yR ?_;refine yM ?_;refine yL ?_;refine s_val (v_callO (fun _ => hkc)) ?_;refine yA ?_;refine e_seq ?_;refine yR ?_;refine yM ?_;refine yI ?_;refine e_seq ?_;refine tQ ?_;refine Tri.cond rfl (fun h2 => ?_) (fun h2 => ?_)
   ·skip
    rw [if_pos (by simpa using h2)] at hst
    refine yR ?_;refine yT ?_;refine yS ?_;refine yB ?_;refine e_seq ?_;refine tQ ?_;exact Tri.ret ⟨.inr rfl, ret2 rfl resV_cell ((by rw [hst]; exact ToPu.imp (by unfold noneM; repeat constructor))) resV_tmp ((by rw [hst]; exact VImp.refl _))⟩
   ·skip
    have hk7 : kk ≤ 7 := by simpa using h2
    rw [if_neg (by omega)] at hst
    have hnx : nextM ts t = doesM ts t (placeM t) kk := by unfold nextM; rw [hkk]
    have hyz := does_sz (fun x hx => (check_sh (k2 x hx)).2) hok (show tsize t ≤ 3000 by omega) kk
    rw [← hnx] at hyz
    obtain rfl | rfl | rfl | rfl | rfl | rfl | rfl : kk = 1 ∨ kk = 2 ∨ kk = 3 ∨ kk = 4 ∨ kk = 5 ∨ kk = 6 ∨ kk = 7 := by omega
    all_goals
     refine Tri.skip ?_;refine yR ?_;refine yM ?_;refine yM ?_;refine yY ?_;refine yF ?_;refine s_val (v_ixo SS) ?_;refine yL ?_;refine yL ?_
     first | refine s_val (v_callO (fun _ => does1_c k5 hok hN' hkk)) ?_ | refine s_val (v_callO (fun _ => does2_c k5 hok hN' hkk)) ?_ | refine s_val (v_callO (fun _ => does3_c a b hwd hok hN' hkk)) ?_ | refine s_val (v_callO (fun _ => does4_c k5 hok hN' hkk)) ?_ | refine s_val (v_callO (fun _ => does5_c k5 hok hN' hkk)) ?_ | refine s_val (v_callO (fun _ => does6_c k5 hok hN' hkk)) ?_ | refine s_val (v_callO (fun _ => does7_c k5 hok hN' hkk)) ?_
     refine s_alloc SS 10 ?_;refine yS ?_;refine e_drawN [10] ?_;rw [← hnx];refine yR ?_;refine yL ?_;refine s_val (v_callD (fun _ => right_c (nextM ts t) (by omega))) ?_;refine yQ ?_;refine e_seq ?_;refine tQ ?_;refine Tri.cond rfl (fun h3 => ?_) (fun h3 => ?_)
     ·skip
      rw [if_neg (by simpa using h3)] at hst
      refine yR ?_;refine yT ?_;refine yS ?_;refine yB ?_;refine e_seq ?_;refine tQ ?_;exact Tri.ret ⟨.inr rfl, ret2 rfl resV_cell ((by rw [hst]; exact ToPu.imp (by unfold noneM; repeat constructor))) resV_tmp ((by rw [hst]; exact VImp.refl _))⟩
     ·skip
      rw [if_pos (by simpa using h3)] at hst
      refine Tri.skip ?_;refine yR ?_;refine yL ?_;refine s_val (v_callN (fun m n h => (tmc_low h _).imp) (fun _ => own_c (nextM ts t) (by omega))) ?_;refine yS ?_;refine yB ?_;refine e_seq ?_;refine tQ ?_;exact Tri.ret ⟨.inr rfl, ret2 rfl resV_cell ((by rw [hst]; exact VImp.refl _)) resV_tmp ((by rw [hst]; exact VImp.refl _))⟩
def mtraceL (ts : List KT) : Nat → Tm → Option (List Tm)
 | 0, _ => some []
 | n + 1, t => if (stepM ts t).2 = 11 then none else if (stepM ts t).2 = 0 then (mtraceL ts n (stepM ts t).1).map ((stepM ts t).1 :: ·) else some []
def traceM (ts : List KT) (t : Tm) (most : Int) : List Tm × Int := if stepCheckM ts t = 0 then (if most < 0 ∨ 40 < most then ([], 3) else trFin [t] (mtraceL ts most.toNat t)) else ([], stepCheckM ts t)
theorem step_size {ts : List KT} {t x : Tm} {e : Int} (h : stepM ts t = (x, e)) : tsize x ≤ 300 := by
 have hn1 : tsize noneM = 1 := by simp [noneM, tsize, tsizeL, csizeL]
 unfold stepM at h
 repeat' split at h
 all_goals (simp only [Prod.mk.injEq] at h; obtain ⟨rfl, _⟩ := h)
 all_goals first | omega | exact (check_sh ‹_›).2
set_option maxHeartbeats 1000000 in
theorem trace_c (a b : Pu) (ts : List KT) (t0 : Tm) (hts : ∀ x ∈ ts, tsize x.2 < 2^40) (hN : tsize t0 < 2^40) (most : Int) : FCallN Tryz.prog G 49 [.pu (wdP a b ts), .pu (tmc 0 t0), iv .i64 most] (fun m => traceV m (traceM ts t0 most)) := by
 refine FCallN.of_tri tbl 50 Tryz.func49 rfl rfl (fun _ => rfl) fun w0 M ρ0 D0 hM => ?_
 refine yR ?_;refine s_box SS 3 ?_;refine s_box SS 4 ?_;refine yB ?_;refine yB ?_;refine e_seqN [3, 4] ?_;refine yR ?_;refine yL ?_;refine yL ?_;refine s_val (v_callD (fun _ => stepCheck_c a b ts t0 hts hN)) ?_;refine yA ?_;refine e_seq ?_;refine yR ?_;refine yM ?_;refine yI ?_;refine e_seq ?_;refine tQ ?_;refine Tri.cond rfl (fun h0 => ?_) (fun h0 => ?_)
 ·skip
  have h0' : ¬ stepCheckM ts t0 = 0 := by simpa using h0
  have hfin : traceM ts t0 most = ([], stepCheckM ts t0) := by rw [traceM, if_neg h0']
  refine yR ?_;refine yM ?_;refine yB ?_;refine yA ?_;refine e_seq ?_;refine tQ ?_;exact Tri.ret ⟨.inr rfl, ret2 rfl resV_tmp ((by rw [hfin]; exact ToPu.imp (by repeat constructor))) resV_tmp ((by rw [hfin]; exact VImp.refl _))⟩
 ·skip
  have h0' : stepCheckM ts t0 = 0 := by simpa using h0
  obtain ⟨k1, k2, k3, k4⟩ := stepCheck_ok h0'
  obtain ⟨k5, k6⟩ := check_sh k4
  refine Tri.skip ?_;refine yR ?_;refine yM ?_;refine yI ?_;refine yM ?_;refine xM ?_;refine xI ?_;refine yO ?_;refine e_seq ?_;refine tQ ?_;refine Tri.cond rfl (fun h1 => ?_) (fun h1 => ?_)
  ·skip
   have hfin : traceM ts t0 most = ([], 3) := by rw [traceM, if_pos h0', if_pos (by simpa using h1)]
   refine yR ?_;refine yB ?_;refine yB ?_;refine e_seq ?_;refine tQ ?_;exact Tri.ret ⟨.inr rfl, ret2 rfl resV_tmp ((by rw [hfin]; exact ToPu.imp (by repeat constructor))) resV_tmp ((by rw [hfin]; exact VImp.refl _))⟩
  ·skip
   have hm0 : ¬ (most < 0 ∨ 40 < most) := by simp at h1; omega
   obtain ⟨mm, hmm⟩ : ∃ mm : Nat, most = mm := ⟨most.toNat, by omega⟩
   subst hmm
   have hst : traceM ts t0 mm = trFin [t0] (mtraceL ts mm t0) := by rw [traceM, if_pos h0', if_neg hm0, Int.toNat_natCast]
   refine Tri.skip ?_;refine yR ?_;refine yL ?_;refine s_val (v_callN (fun m n h => (tmc_low h _).imp) (fun _ => own_c t0 (by omega))) ?_;refine s_sl SS (lo := w0.heap.size) ?_;refine yA ?_;refine e_seq ?_;refine yR ?_;refine yM ?_;refine yJ ?_;refine e_seq ?_;refine tQ ?_
   refine Tri.block (Tri.loopW (σ := {q : (Nat × Nat) × List Tm × Tm // q.1.1 ≤ mm ∧ q.2.1.length = q.1.1 + 1 ∧ tsize q.2.2 ≤ 300 ∧ traceM ts t0 mm = trFin q.2.1 (mtraceL ts (mm - q.1.1) q.2.2)}) (fun i => ⟨[(27, iv .i64 mm), (28, iv .i64 i.1.1.1), (3, .ptr 3 [] 26), (4, .ptr 4 [] 32), (9, .ow w0.heap.size 32 (tmsc w0.heap.size i.1.2.1))], [(3, .var 26 (.pu (wdP a b ts))), (4, .var 32 (.pu (tmc i.1.1.2 i.1.2.2)))]⟩) (fun i => mm - i.1.1.1) ⟨((0, 0), [t0], t0), by simp, by simp, by omega, by simpa using hst⟩ ?_ ?_ (fun i => ?_))
   ·repeat (first | exact .nil | refine .cons rfl (by first | exact .refl | (focus ((repeat constructor); done)) | (exact .xsOw)) ?_)
   ·repeat (first | exact .nil | refine .cons rfl (by first | exact .refl | (focus ((repeat constructor); done)) | (exact .xsOw)) ?_)
   obtain ⟨⟨⟨i, c⟩, out, t⟩, hi, hol, hzt, hinv⟩ := i
   dsimp only at hi hol hzt hinv ⊢
   refine yR ?_;refine yI ?_;refine e_seq ?_;refine tQ ?_;refine Tri.cond rfl (fun h2 => ?_) (fun h2 => ?_)
   ·skip
    have hlt : i < mm := by simpa using h2
    obtain ⟨nn, hnn⟩ : ∃ nn, mm - i = nn + 1 := ⟨mm - i - 1, by omega⟩
    rw [hnn, mtraceL] at hinv
    have hsc := step_c (G := G) a b ts t hts (by omega)
    have hsz := fun x e => step_size (ts := ts) (t := t) (x := x) (e := e)
    generalize stepM ts t = res at hsc hinv hsz
    obtain ⟨x, e⟩ := res
    have hxz := hsz x e rfl
    clear hsz
    dsimp only at hinv
    refine Tri.skip ?_;refine tQ ?_;refine Tri.block ?_;refine yR ?_;refine yL ?_;refine yL ?_;refine s_val (v_callN (fun m n h => stepV_low h _) (fun _ => hsc)) ?_;refine yM ?_;refine yX ?_;refine yX ?_;refine s_alloc SS 10 ?_;refine yS ?_;refine yA ?_;refine e_seqN [10] ?_;refine yR ?_;refine yM ?_;refine e_seq ?_;refine tQ ?_;refine Tri.block ?_;refine yR ?_;refine yI ?_;refine yA ?_;refine e_seq ?_;refine tQ ?_;refine Tri.cond rfl (fun h3 => ?_) (fun h3 => ?_)
    ·skip
     have he : e = 11 := by simpa using h3
     have hfin : traceM ts t0 mm = ([], e) := by rw [hinv, if_pos he, he]; rfl
     refine yR ?_;refine yM ?_;refine yB ?_;refine yA ?_;refine e_seq ?_;refine tQ ?_;exact Tri.ret ⟨.inr rfl, ret2 rfl resV_tmp ((by rw [hfin]; exact ToPu.imp (by repeat constructor))) resV_tmp ((by rw [hfin]; exact VImp.refl _))⟩
    ·skip
     have he : ¬ e = 11 := by simpa using h3
     rw [if_neg he] at hinv
     refine yR ?_;refine yI ?_;refine yA ?_;refine e_seq ?_;refine tQ ?_;refine Tri.cond rfl (fun h4 => ?_) (fun h4 => ?_)
     ·skip
      have he0 : e = 0 := by simpa using h4
      rw [if_pos he0] at hinv
      have hnext : i + 1 ≤ mm ∧ (out ++ [x]).length = i + 1 + 1 ∧ tsize x ≤ 300 ∧ traceM ts t0 mm = trFin (out ++ [x]) (mtraceL ts (mm - (i + 1)) x) := ⟨by omega, by simp; omega, hxz, by rw [hinv, trFin_cons, show mm - (i + 1) = nn by omega]⟩
      refine yR ?_;refine yM ?_;refine yL ?_;refine s_sl SS (lo := w0.heap.size) ?_;refine s_app1 9 ?_ ?_
      ·simp [tms_length]; omega
      refine yL ?_;refine yA ?_;refine yS ?_;refine e_draw ?_;refine yR ?_;refine yI ?_;refine yM ?_;refine e_seq ?_
      refine ⟨⟨((i + 1, w0.heap.size), out ++ [x], x), hnext⟩, by show mm - (i + 1) < mm - i; omega, le_of ?_ ?_⟩
      ·repeat (first | exact SubE.nil | refine SubE.cons rfl (by first | rfl | (rw [wrap64 (by omega) (by omega)]; rfl) | (rw [tms_eq, tms_eq, List.map_append]; rfl)) ?_)
      ·repeat (first | exact SubH.nil | refine SubH.cons rfl (by first | rfl | (rw [wrap64 (by omega) (by omega)]; rfl) | (rw [tms_eq, tms_eq, List.map_append]; rfl)) ?_)
     ·skip
      have he0 : ¬ e = 0 := by simpa using h4
      rw [if_neg he0] at hinv
      have hfin : traceM ts t0 mm = (out, 0) := by rw [hinv]; simp [trFin]
      refine yR ?_;refine yM ?_;refine yA ?_;refine yB ?_;refine e_seq ?_;refine tQ ?_;exact Tri.ret ⟨.inr rfl, ret2 rfl resV_tmp ((by rw [hfin]; exact ToPu.imp (by repeat constructor))) resV_tmp ((by rw [hfin]; exact VImp.refl _))⟩
   ·skip
    have hle : i = mm := by simp at h2; omega
    have hfin : traceM ts t0 mm = (out, 0) := by rw [hinv, hle, Nat.sub_self]; simp [mtraceL, trFin]
    refine Tri.exit ?_;refine yR ?_;refine yM ?_;refine yA ?_;refine yB ?_;refine e_seq ?_;refine tQ ?_;exact Tri.ret ⟨.inr rfl, ret2 rfl resV_tmp ((by rw [hfin]; exact ToPu.imp (by repeat constructor))) resV_tmp ((by rw [hfin]; exact VImp.refl _))⟩
end Go.Proofs.YtkcgkignhpepkaaGreatDoor

/- Steps as specified: the reference's are the program's. -/
namespace Go.Proofs.YtkcgkignhpepkaaGreatDoor
open Go Hs
theorem stepCheck_parts {ts : List KT} {t : Tm} (h : stepCheckM ts t = 0) (x : Tm) : stepCheckM ts x = checkM x 0 0 := by
 unfold stepCheckM at h ⊢
 split at h
 ·cases h
 ·rename_i h1
  rw [if_neg h1]
  obtain ⟨h2, h3⟩ := orE_zero h
  split at h3
  ·cases h3
  ·rename_i h4
   rw [h2, if_neg h4]; rfl
theorem rt_step {ts : List KT} (hb : ∀ x ∈ ts, Rt x.2) {t : Tm} (h : Rt t) (hN : tsize t < 2^28) (hk7 : ¬ 7 < kindM ts t (placeM t)) : Rt (nextM ts t) := by
 unfold nextM
 exact does_rt hb h hN rfl (by omega)
theorem step_eq {ts : List KT} (hb : ∀ x ∈ ts, Rt x.2) {t : Tm} (hc : stepCheckM ts t = 0) (h : Rt t) : stepM ts t = rstepM ts t ∧ ((rstepM ts t).2 = 0 → (rstepM ts t).1 = nextM ts t ∧ Rt (nextM ts t) ∧ stepCheckM ts (nextM ts t) = 0) := by
 have hz := (check_sh (stepCheck_ok hc).2.2.2).2
 unfold stepM rstepM
 rw [if_pos hc]
 split
 ·exact ⟨rfl, fun h => by cases h⟩
 ·split
  ·exact ⟨rfl, fun h => by cases h⟩
  ·rename_i h7
   have hn := rt_step hb h (by omega) h7
   rw [hn.check 60 8]
   cases hl : (longT 300 60 1 0 (nextM ts t)).1
   ·refine ⟨by simp, fun _ => ⟨by simp, hn, ?_⟩⟩
    rw [stepCheck_parts hc, hn.check, hl]; rfl
   ·exact ⟨by simp, fun h => by simp at h⟩
theorem mtrace_end {ts : List KT} {n : Nat} {t : Tm} (h : (stepM ts t).2 ≠ 11) (h0 : (stepM ts t).2 ≠ 0) : mtraceL ts (n + 1) t = some [] := by rw [mtraceL, if_neg h, if_neg h0]
theorem mtrace_eq {ts : List KT} (hb : ∀ x ∈ ts, Rt x.2) : ∀ (n : Nat) {t : Tm}, stepCheckM ts t = 0 → Rt t → mtraceL ts n t = traceL ts n t
 | 0, _, _, _ => rfl
 | n + 1, t, hc, h => by
  obtain ⟨h1, h2⟩ := step_eq hb hc h
  by_cases hv : valM t = true
  ·have e : stepM ts t = (noneM, 6) := by rw [h1, rstepM, if_pos hv]
   rw [traceL_end (.inl hv), mtrace_end (by rw [e]; decide) (by rw [e]; decide)]
  by_cases h7 : 7 < kindM ts t (placeM t)
  ·have e : stepM ts t = (noneM, 10) := by rw [h1, rstepM, if_neg hv, if_pos h7]
   rw [traceL_end (.inr h7), mtrace_end (by rw [e]; decide) (by rw [e]; decide)]
  have hr : rstepM ts t = if (longT 300 60 1 0 (nextM ts t)).1 = true then (noneM, 11) else (nextM ts t, 0) := by rw [rstepM, if_neg hv, if_neg h7]
  have ht : traceL ts (n + 1) t = if (longT 300 60 1 0 (nextM ts t)).1 = true then none else (traceL ts n (nextM ts t)).map (nextM ts t :: ·) := by rw [traceL, if_neg (fun hh : valM t = true ∨ 7 < kindM ts t (placeM t) => hh.elim hv h7)]
  rw [ht]
  by_cases hl : (longT 300 60 1 0 (nextM ts t)).1 = true
  ·have e : stepM ts t = (noneM, 11) := by rw [h1, hr, if_pos hl]
   rw [if_pos hl, mtraceL, e, if_pos rfl]
  ·have e : rstepM ts t = (nextM ts t, 0) := by rw [hr, if_neg hl]
   obtain ⟨_, g1, g2⟩ := h2 (by rw [e])
   rw [if_neg hl, mtraceL, h1, e, if_neg (by simp), if_pos rfl, mtrace_eq hb n g2 g1]
theorem trace_eq {ts : List KT} (hb : ∀ x ∈ ts, Rt x.2) {t : Tm} (hc : stepCheckM ts t = 0) (h : Rt t) (most : Int) : traceM ts t most = rtraceM ts t most := by
 unfold traceM rtraceM
 rw [if_pos hc]
 split
 ·rfl
 ·rw [mtrace_eq hb _ hc h]
theorem traceL_sz {ts : List KT} : ∀ (n : Nat) (t : Tm) (l : List Tm), traceL ts n t = some l → l.length ≤ n ∧ ∀ x ∈ l, tsize x ≤ 300
 | 0, t, l, h => by simp [traceL] at h; subst h; simp
 | n + 1, t, l, h => by
  rw [traceL] at h
  split at h
  ·simp at h; subst h; simp
  ·split at h
   ·cases h
   ·rename_i hl
    rw [Option.map_eq_some_iff] at h
    obtain ⟨r, hr, rfl⟩ := h
    obtain ⟨h1, h2⟩ := traceL_sz n _ r hr
    have := long_size (mn := 300) (md := 60) (t := nextM ts t) (d := 1) (c := 0) (by omega) (by simpa using hl)
    refine ⟨by simp; omega, fun x hx => ?_⟩
    rcases List.mem_cons.1 hx with rfl | hx
    ·omega
    ·exact h2 x hx
theorem rtrace_size {ts : List KT} {t : Tm} (hz : tsize t ≤ 300) (most : Int) : (rtraceM ts t most).1.length ≤ 41 ∧ ∀ x ∈ (rtraceM ts t most).1, tsize x ≤ 300 := by
 unfold rtraceM
 split
 ·simp
 ·cases h : traceL ts most.toNat t with
  | none => simp [trFin]
  | some r =>
   obtain ⟨h1, h2⟩ := traceL_sz _ _ _ h
   simp only [trFin]
   refine ⟨by simp; omega, fun x hx => ?_⟩
   simp only [List.cons_append, List.nil_append, List.mem_cons] at hx
   rcases hx with rfl | hx
   ·exact hz
   ·exact h2 x hx
end Go.Proofs.YtkcgkignhpepkaaGreatDoor

/- StepSteps: the walk. -/
namespace Go.Proofs.YtkcgkignhpepkaaGreatDoor
open Go Hs
set_option maxHeartbeats 4000000 in
theorem stepSteps_c (a b : Pu) (ts : List KT) (t : Tm) (most : Int) (hl : ts.length < 2^40) (hts : ∀ x ∈ ts, tsize x.2 < 2^40) (hN : tsize t < 2^40) (hrg : rgT t) (hrgs : ∀ x ∈ ts, rgT x.2) :
  FCall Tryz.prog gA 7 [.pu (wdP a b ts), .pu (tmc 0 t), iv .i64 most] (bv true) := by
 refine FCall.of_tri tbl 106 Tryz.func7 rfl rfl rfl fun w0 M ρ0 D0 => ?_
 refine yR ?_;refine s_box SS 3 ?_;refine s_box SS 4 ?_;refine yB ?_;refine e_seqN [3, 4] ?_;refine yR ?_;refine yL ?_;refine yL ?_;refine s_val (v_callD (fun _ => lgreat_c a b ts t hl hts hN)) ?_;refine e_seq ?_;refine tQ ?_;refine Tri.cond rfl (fun h0 => ?_) (fun h0 => ?_)
 ·skip
  refine yR ?_;refine s_val (v_callD (fun _ => awake_c)) ?_;refine yA ?_;refine e_seq ?_;refine tQ ?_;exact Tri.ret ⟨.inr rfl, ret1 rfl resV_tmp (VImp.refl _)⟩
 ·skip
  obtain ⟨hl2, hN2, hts2⟩ := wgreat_ok h0
  obtain ⟨y, e, hS⟩ : ∃ y e, stepM ts t = (y, e) := ⟨_, _, rfl⟩
  obtain ⟨l, f, hT⟩ : ∃ l f, traceM ts t most = (l, f) := ⟨_, _, rfl⟩
  have hyz := step_size hS
  refine Tri.skip ?_;refine yR ?_;refine yF ?_;refine yK ?_;refine yP ?_;refine s_val (v_callD (fun _ => ownWorld_c ts (by omega) (fun x hx => by have := hts2 x hx; omega))) ?_;refine yL ?_;refine s_val (v_callD (fun _ => kitOwnTerm_c _ t (Nat.le_refl _) (by omega))) ?_;refine s_alloc SS 7 ?_;refine s_alloc SS 8 ?_;refine yS ?_;refine yS ?_;refine e_drawN [7, 8] ?_;refine yR ?_;refine yL ?_;refine yL ?_;refine s_val (v_callD (fun _ => r16check_c a b ts t hl hts hN)) ?_;refine yA ?_;refine e_seq ?_;refine yR ?_;refine yM ?_;refine yA ?_;refine e_seq ?_;refine yR ?_;refine s_alloc SS 11 ?_
  refine e_seqN [11] ?_;refine yR ?_;refine yB ?_;refine e_seq ?_;refine yR ?_;refine yM ?_;refine yI ?_;refine e_seq ?_;refine tQ ?_;refine Tri.cutW (σ := Unit) (fun u => ⟨[(3, .ptr 3 [] 26), (4, .ptr 4 [] 32), (7, .ptr 7 [] 26), (8, .ptr 8 [] 32), (11, .ptr 11 [] 32), (2, iv .i64 most), (9, iv .i64 e), (10, iv .i64 f), (12, .pu (.sl 0 32 (tmsc 0 l)))], [(3, .var 26 (.pu (wdP a b ts))), (4, .var 32 (.pu (tmc 0 t))), (7, .var 26 (.pu (wdP kdN kaN ts))), (8, .var 32 (.pu (tmc 0 t))), (11, .var 32 (.pu (tmc 0 y)))]⟩) ?_ (fun u => ?_)
  ·skip
   refine tQ ?_;refine Tri.cond rfl (fun h1 => ?_) (fun h1 => ?_)
   ·skip
    have h1' : stepCheckM ts t = 0 := by simpa using h1
    obtain ⟨k1, k2, k3, k4⟩ := stepCheck_ok h1'
    have hb : ∀ x ∈ ts, Rt x.2 := fun x hx => check_rt (k2 x hx) (hrgs x hx)
    have hr := check_rt k4 hrg
    have hbz : ∀ x ∈ ts, gdT 0 x.2 ∧ tsize x.2 ≤ 300 := fun x hx => ⟨(hb x hx).gd, (check_sh (k2 x hx)).2⟩
    have hrs := rstep_c (G := gA) a b ts hl hbz t hr.gd (by omega)
    rw [← (step_eq hb h1' hr).1, hS] at hrs
    have hrt := rtrace_c (G := gA) a b ts hl hbz t hr.gd (by omega) most
    rw [← trace_eq hb h1' hr, hT] at hrt
    refine yR ?_;refine yL ?_;refine yL ?_;refine s_val (v_callD (fun _ => hrs)) ?_;refine yM ?_;refine yX ?_;refine yX ?_;refine yS ?_;refine yA ?_;refine e_seq ?_;refine yR ?_;refine yL ?_;refine yL ?_;refine yM ?_;refine s_val (v_callD (fun _ => hrt)) ?_;refine yM ?_;refine yX ?_;refine yX ?_;refine yA ?_;refine yA ?_;refine e_seq ?_
    refine ⟨(), ?_, ?_⟩
    ·exact zW
    ·exact zW
   ·skip
    have h1' : ¬ stepCheckM ts t = 0 := by simpa using h1
    rw [stepM, if_neg h1'] at hS
    rw [traceM, if_neg h1'] at hT
    simp only [Prod.mk.injEq] at hS hT
    obtain ⟨rfl, rfl⟩ := hS
    obtain ⟨rfl, rfl⟩ := hT
    unfold noneM
    refine Tri.skip ?_
    refine ⟨(), ?_, ?_⟩
    ·exact zW
    ·exact zW
  ·skip
   have hlz : l.length ≤ 41 ∧ ∀ x ∈ l, tsize x ≤ 300 := by
    by_cases h1' : stepCheckM ts t = 0
    ·obtain ⟨k1, k2, k3, k4⟩ := stepCheck_ok h1'
     have hb : ∀ x ∈ ts, Rt x.2 := fun x hx => check_rt (k2 x hx) (hrgs x hx)
     have := rtrace_size (ts := ts) (check_sh k4).2 most
     rw [← trace_eq hb h1' (check_rt k4 hrg), hT] at this
     exact this
    ·rw [traceM, if_neg h1'] at hT
     simp only [Prod.mk.injEq] at hT
     rw [← hT.1]; simp
   have hsc := step_c (G := gA) kdN kaN ts t hts hN
   have htc := trace_c (G := gA) kdN kaN ts t hts hN most
   rw [hS] at hsc
   rw [hT] at htc
   refine Tri.two2 [3, 4, 7, 8, 11] rfl rfl (by simp) fun w1 M1 ρ1 D1 K2 hpos hseq hspoil => ?_
   refine hseq _ _ _ ?_;refine yR ?_;refine yL ?_;refine yL ?_;refine s_val (v_callN (fun m n h => stepV_low h _) (fun _ => hsc)) ?_;refine yM ?_;refine yX ?_;refine yX ?_;refine s_alloc SS 13 ?_;refine yS ?_;refine yA ?_;refine e_seqN [13] ?_
   refine ⟨rfl, ?_⟩
   refine hseq _ _ _ ?_;refine yR ?_;refine yL ?_;refine yL ?_;refine yM ?_;refine s_val (v_callN (fun m n h => traceV_low h _) (fun _ => htc)) ?_;refine yM ?_;refine yX ?_;refine yX ?_;refine yA ?_;refine yA ?_;refine e_seq ?_
   refine ⟨rfl, ?_⟩
   refine hseq _ _ _ ?_;refine yR ?_;refine yM ?_;refine yM ?_;refine yI ?_;refine yM ?_;refine xL ?_;refine xL ?_;refine s_gg zG (v_callD (fun _ => sameT_c _ y y (Nat.le_refl _) (by omega) (by omega))) ?_;refine xQ ?_;refine yO ?_;refine yM ?_;refine xM ?_;refine xM ?_;refine xI ?_;refine yO ?_;refine yM ?_;refine xM ?_;refine xM ?_;refine s_gg zG (v_callD (fun _ => sameTs_c l l (by omega) (by omega) (fun i h1 h2 => sameT_c _ _ _ (Nat.le_refl _) (by have := hlz.2 _ (List.getElem_mem h1); omega) (by have := hlz.2 _ (List.getElem_mem h1); omega)))) ?_;refine xQ ?_;refine yO ?_;refine e_seq ?_
   refine tQ ?_;refine Tri.cond rfl (fun h2 => ?_) (fun h2 => Tri.skip ?_)
   ·simp [sameT_refl, sameTs_refl] at h2
   refine ⟨rfl, ?_⟩
   refine hspoil _ _ _ _ [(3, .ptr 3 [] 26), (4, .ptr 4 [] 32), (7, .ptr 7 [] 26), (8, .ptr 8 [] 32)] rfl ?_ (fun C a w hs => ?_) ?_
   ·exact (le_of (e' := [(3, .ptr 3 [] 26), (4, .ptr 4 [] 32), (7, .ptr 7 [] 26), (8, .ptr 8 [] 32)]) (h' := []) zE zH).env
   ·obtain ⟨x3, h3, _⟩ := hs.env 3 _ rfl
    obtain ⟨x4, h4, _⟩ := hs.env 4 _ rfl
    obtain ⟨x7, h7, _⟩ := hs.env 7 _ rfl
    obtain ⟨x8, h8, _⟩ := hs.env 8 _ rfl
    obtain ⟨x13, h13, hv13⟩ := hs.env 13 _ rfl
    obtain ⟨x15, h15, hv15⟩ := hs.env 15 _ rfl
    obtain ⟨bb, hρ, _, cc, EE, hcell, hval, _, hcs⟩ := hs.heap 13 _ rfl
    obtain ⟨rfl⟩ : x13 = .pointer (some ⟨bb, 0, none⟩) := by
     cases hv13 with
     | one hv hsa =>
      generalize hz : x13.cells.toList = z at hv
      cases hv with
      | ptr hl hsub =>
       rw [hρ] at hl
       simp only [Option.some.injEq, Prod.mk.injEq] at hl
       obtain ⟨rfl, rfl⟩ := hl
       simp [subR, subT] at hsub
       obtain ⟨_, rfl⟩ := hsub
       have hsa' : valAgg x13 = false := hsa
       cases x13 <;> simp_all [Value.cells, valAgg]
    have hm : w1.heap.size ≤ w.heap.size := hs.framed.size
    have hsy : softT w1.heap.size w.heap.size w (tsize y) cc.toList := by
     cases hval with
     | pu hp => exact softT_of hpos (Nat.le_refl _) (tsize y) y _ (Nat.le_refl _) (by omega) hp
    have hsoft : softS w1.heap.size w.heap.size w 32 36 (softT w1.heap.size w.heap.size w 300) x15 := softS_of (ps := tmsc w1.heap.size l) hpos (Nat.le_refl _) (by kernel_rfl) (sl_slot hv15) (by rw [tms_length]; exact Nat.lt_of_le_of_lt hlz.1 (by decide)) fun i q ll hi hq => by
     rw [tms_eq, List.getElem?_map] at hi
     cases hk : l[i]? with
     | none => simp [hk] at hi
     | some u =>
      simp [hk] at hi
      subst hi;exact softT_of hpos (Nat.le_refl _) 300 u ll (hlz.2 u (List.mem_of_getElem? hk)) (by omega) hq
    obtain ⟨a1, n1, cap1, rfl, hn1, _⟩ := softS_view hsoft
    have hcl : cc.toList.length = Tryz.prog.cellsOf 32 := by rw [Array.length_toList]; exact hcs
    refine RTri.use (n := 106) (fun e env' w' => e = .normal ∧ subE [(15, .slice a1 n1 cap1), (3, x3), (4, x4), (7, x7), (8, x8)] env' ∧ Keep w1.heap.size w.heap.size w w' ∧ Wore w1.heap.size w.heap.size w w') ?_ (Kn.of (l := [(13, .pointer (some ⟨bb, 0, none⟩)), (15, .slice a1 n1 cap1), (3, x3), (4, x4), (7, x7), (8, x8)]) hs.size (fun x hx => ?_)) ?_
    ·refine RTri.region ?_
     refine q_loadA tbl (fun j v hj => by rw [cell_of_cells hcell, ← Array.getElem?_toList, Nat.zero_add]; exact hj) hcl rfl (by kernel_rfl) (by decide) ?_;refine RL.call rfl rfl rfl (by decide) #[.agg cc.toList.toArray] (fun _ ha => x_call (by kernel_rfl) rfl rfl rfl ha) ?_
     refine (spoil_c _ w1.heap.size w.heap.size w _ hsy (Nat.le_refl _)).mono fun e w3 ⟨⟨v, he⟩, K3, W3⟩ => ⟨v, he, ?_⟩
     refine RL.nil ?_;exact ⟨rfl, ⟨rfl, rfl, rfl, rfl, rfl, trivial⟩, K3, W3⟩
    ·simp only [List.mem_cons, List.not_mem_nil, or_false] at hx
     rcases hx with rfl | rfl | rfl | rfl | rfl | rfl <;> assumption
    ·rintro e a2 w2 env2 hk2 ⟨he, hsub2, hkeep2, hwore2⟩
     refine ⟨he, ?_⟩
     refine RTri.use (n := 106) (fun e env' w' => e = .normal ∧ subE [(3, x3), (4, x4), (7, x7), (8, x8)] env' ∧ Keep w1.heap.size w.heap.size w w') (env := [(15, .slice a1 n1 cap1), (3, x3), (4, x4), (7, x7), (8, x8)]) ?_ (hk2.less hsub2.get) ?_
     ·repeat refine RTri.seq ?_
      refine RTri.region ?_;refine q_move rfl (by decide) ?_;refine q_len (E := 32) rfl (by kernel_rfl) (by decide) ?_;refine q_move rfl (by decide) ?_;refine RL.nil ?_
      repeat refine RTri.seq ?_
      refine RTri.block ?_;refine RTri.loop (σ := Nat) (fun i env w3 => i ≤ n1 ∧ subE [(84, .int .i64 (i : Nat)), (83, .int .i64 n1), (15, .slice a1 n1 cap1), (3, x3), (4, x4), (7, x7), (8, x8)] env ∧ Keep w1.heap.size w.heap.size w w3 ∧ Wore w1.heap.size w.heap.size w w3) (fun i => n1 - i) 0 ⟨Nat.zero_le _, ⟨rfl, rfl, rfl, rfl, rfl, rfl, rfl, trivial⟩, hkeep2, hwore2⟩ ?_
      rintro i env w3 ⟨hi1, henv, Ki, Wi⟩
      refine RTri.less ?_ henv.get;clear henv env
      repeat refine RTri.seq ?_
      refine RTri.region ?_;refine q_lt tbl rfl rfl (by decide) ?_;refine RL.nil ?_
      repeat refine RTri.seq ?_
      refine RTri.cond rfl (fun hb => RTri.skip ?_) (fun hb => RTri.exit ?_)
      ·have hi' : i < n1 := of_decide_eq_true hb
       obtain ⟨_, _, _, e, _, hv⟩ := softS_view (soft_tms Wi hsoft)
       simp only [Value.slice.injEq] at e
       obtain ⟨rfl, rfl, rfl⟩ := e
       obtain ⟨b, c, rfl, g1, g2, g3, g4, g5⟩ := hv i hi'
       repeat refine RTri.seq ?_
       refine RTri.block ?_
       repeat refine RTri.seq ?_
       refine RTri.region ?_;refine q_move rfl (by decide) ?_;refine q_assign rfl (by decide) ?_;refine RL.nil ?_
       repeat refine RTri.seq ?_
       refine RTri.region ?_;refine q_move rfl (by decide) ?_;refine q_move rfl (by decide) ?_;refine q_index tbl (E := 32) (sz := 36) hi' rfl rfl (by kernel_rfl) (by kernel_rfl) (by decide) ?_;refine q_loadA tbl (el_cell g3) ((el_len g4).trans (by kernel_rfl)) rfl (by kernel_rfl) (by decide) ?_;refine RL.call rfl rfl rfl (by decide) #[.agg (el c 36 i).toArray] (fun _ ha => x_call (by kernel_rfl) rfl rfl rfl ha) ?_
       refine (spoil_c _ w1.heap.size w.heap.size w3 _ g5 Ki.size).mono fun e w4 ⟨⟨v, he⟩, K3, W3⟩ => ⟨v, he, ?_⟩
       refine RL.nil ?_
       repeat refine RTri.seq ?_
       refine RTri.region ?_;refine q_add tbl rfl (by omega) (by decide) ?_;refine q_move rfl (by decide) ?_;refine RL.nil ?_;exact ⟨i + 1, by omega, by omega, ⟨rfl, rfl, rfl, rfl, rfl, rfl, rfl, trivial⟩, Ki.trans K3, Wi.trans W3⟩
      ·exact ⟨rfl, ⟨rfl, rfl, rfl, rfl, trivial⟩, Ki⟩
     ·rintro e a' w' env' hk ⟨he, hsub, hkeep⟩
      refine ⟨he, ⟨_, hkeep⟩, hk.size, fun i v hv => ?_, hk.defers⟩
      have hmem := get_mem hv
      simp only [List.mem_cons, List.not_mem_nil, or_false, Prod.mk.injEq] at hmem
      obtain ⟨s3, s4, s7, s8, _⟩ := hsub
      rcases hmem with ⟨rfl, _⟩ | ⟨rfl, _⟩ | ⟨rfl, _⟩ | ⟨rfl, _⟩
      ·exact (hk.env _ _ s3).trans h3.symm
      ·exact (hk.env _ _ s4).trans h4.symm
      ·exact (hk.env _ _ s7).trans h7.symm
      ·exact (hk.env _ _ s8).trans h8.symm
   ·refine yR ?_
    refine yL ?_;refine yL ?_;refine s_val (v_callD (fun _ => sameT_c _ t t (Nat.le_refl _) (by omega) (by omega))) ?_;refine yM ?_;refine xL ?_;refine xF ?_;refine xL ?_;refine xP ?_;refine s_gg zG (v_callD (fun _ => sameW_c ts ts hl hl hts hts)) ?_;refine yN ?_;refine yM ?_;refine s_gg zG (v_callD (fun _ => awake_c)) ?_;refine yN ?_;refine yA ?_;refine e_seq ?_;refine tQ ?_;exact Tri.ret ⟨.inr rfl, ret1 rfl resV_tmp (bv_imp (by simp [sameT_refl, sameW_refl]))⟩
end Go.Proofs.YtkcgkignhpepkaaGreatDoor

/- Terms, patterns and worlds out of what arguments read as. -/
namespace Go.Proofs.YtkcgkignhpepkaaGreatDoor
open Go Hs
variable {H : Type}
theorem bulk_one (d : DataW H) : 1 ≤ Rows.uptoBulk d := by
 cases d with
 | lit l => cases l <;> simp [Rows.uptoBulk]
 | _ => simp [Rows.uptoBulk]
theorem bulk_mem {d : DataW H} {l : List (DataW H)} (h : d ∈ l) : Rows.uptoBulk d ≤ Rows.uptoBulkAll l := by
 induction l with
 | nil => cases h
 | cons x r ih =>
  simp only [Rows.uptoBulkAll]
  cases List.mem_cons.1 h with
  | inl e => subst e; omega
  | inr e => have := ih e; omega
theorem bulk_sum {α : Type} (sz : α → Nat) (tot : List α → Nat) (h0 : tot [] = 0) (h1 : ∀ a l, tot (a :: l) = sz a + tot l) : ∀ {ds : List (DataW H)} {l : List α}, l.length = ds.length → (∀ (i : Nat) (d : DataW H) (a : α), ds[i]? = some d → l[i]? = some a → sz a ≤ Rows.uptoBulk d) → tot l ≤ Rows.uptoBulkAll ds
 | [], l, hl, _ => by
  have : l = [] := List.length_eq_zero_iff.1 hl
  subst this; rw [h0]; omega
 | d :: ds, [], hl, _ => by simp at hl
 | d :: ds, a :: l, hl, h => by
  have h2 := h 0 d a rfl rfl
  have h3 := bulk_sum sz tot h0 h1 (ds := ds) (l := l) (by simpa using hl) fun i d' a' hi hj => h (i + 1) d' a' (by simpa using hi) (by simpa using hj)
  rw [h1]
  simp only [Rows.uptoBulkAll]
  omega
theorem c_int : Tryz.prog.underlying 3 = some (.int .i64) := by kernel_rfl
theorem c_u8 : Tryz.prog.underlying 5 = some (.int .u8) := by kernel_rfl
theorem c_sum : comps Tryz.prog 28 = some (List.replicate 32 (1, 5)) := by kernel_rfl
theorem c_pat : comps Tryz.prog 104 = some [(1, 3), (1, 3), (32, 28), (1, 102)] := by kernel_rfl
theorem c_tm : comps Tryz.prog 32 = some [(1, 3), (1, 3), (32, 28), (1, 29), (1, 30)] := by kernel_rfl
theorem c_cs : comps Tryz.prog 106 = some [(Tryz.prog.cellsOf 104, 104), (Tryz.prog.cellsOf 32, 32)] := by kernel_rfl
theorem u_pats : Tryz.prog.underlying 102 = some (.slice 104) := by kernel_rfl
theorem u_tms : Tryz.prog.underlying 29 = some (.slice 32) := by kernel_rfl
theorem u_css : Tryz.prog.underlying 30 = some (.slice 106) := by kernel_rfl
theorem ht_sum {d : DataW H} {p : Pu} (h : HT Tryz.prog 28 d p) : ∃ r, p = refP r := by
 obtain ⟨ds, ps, rfl, rfl, hA⟩ := h.agg_inv c_sum
 clear h
 have h := hA
 clear hA
 rw [List.map_replicate] at h
 obtain ⟨l, rfl, _, _⟩ := HTs.all (α := Int) (enc := fun n => .leaf (.int .u8 n)) (φ := fun _ _ => True) h fun d _ p hp => by
  obtain ⟨n, _, rfl, _⟩ := hp.int_inv c_u8
  exact ⟨n, rfl, trivial⟩
 exact ⟨l, rfl⟩
theorem sl_bulk {ds sp : List (DataW H)} {d : DataW H} (h : d = .nil ∧ ds = [] ∨ d = .slice ds sp) : Rows.uptoBulkAll ds + 1 ≤ Rows.uptoBulk d := by
 rcases h with ⟨rfl, rfl⟩ | rfl
 ·simp [Rows.uptoBulk, Rows.uptoBulkAll]
 ·simp only [Rows.uptoBulk]; omega
theorem ht_pat : ∀ (N : Nat) (d : DataW H), Rows.uptoBulk d ≤ N → ∀ p, HT Tryz.prog 104 d p → ∃ q, p = patc 0 q ∧ psize q ≤ Rows.uptoBulk d
 | 0, d, hN, _, _ => by have := bulk_one d; omega
 | N + 1, d, hN, p, h => by
  obtain ⟨ds, ps, rfl, rfl, hA⟩ := h.agg_inv c_pat
  clear h
  have h := hA
  clear hA
  obtain ⟨d1, ds, p1, ps, rfl, rfl, h1, h⟩ := h.cons_inv
  obtain ⟨d2, ds, p2, ps, rfl, rfl, h2, h⟩ := h.cons_inv
  obtain ⟨d3, ds, p3, ps, rfl, rfl, h3, h⟩ := h.cons_inv
  obtain ⟨d4, ds, p4, ps, rfl, rfl, h4, h⟩ := h.cons_inv
  obtain ⟨rfl, rfl⟩ := h.nil_inv
  obtain ⟨k, rfl, rfl, _⟩ := h1.int_inv c_int
  obtain ⟨n, rfl, rfl, _⟩ := h2.int_inv c_int
  obtain ⟨r, rfl⟩ := ht_sum h3
  obtain ⟨es, sp, qs, he, rfl, hq⟩ := h4.sl_inv u_pats
  have hb := sl_bulk he
  simp only [Rows.uptoBulk, Rows.uptoBulkAll] at hN ⊢
  obtain ⟨l, rfl, hl, hφ⟩ := HTs.all (enc := patc 0) (φ := fun d q => psize q ≤ Rows.uptoBulk d) hq fun d hm p hp => ht_pat N d (by have := bulk_mem hm; omega) p hp
  have hs := bulk_sum psize psizeL rfl (fun _ _ => rfl) hl hφ
  exact ⟨.mk k n r l, by simp only [patc, pats_eq], by simp only [psize]; omega⟩
theorem rgK_of {l : List Tm} (h : ∀ t ∈ l, rgT t) : rgK l := by
 induction l with
 | nil => trivial
 | cons a l ih => exact ⟨h a (by simp), ih fun t ht => h t (by simp [ht])⟩
theorem rgC_of {l : List Cs} (h : ∀ t ∈ l, rgS t) : rgC l := by
 induction l with
 | nil => trivial
 | cons a l ih => exact ⟨h a (by simp), ih fun t ht => h t (by simp [ht])⟩
theorem mem_pair {α : Type} {ds : List (DataW H)} {l : List α} (hl : l.length = ds.length) {a : α} (h : a ∈ l) : ∃ (i : Nat) (d : DataW H), ds[i]? = some d ∧ l[i]? = some a := by
 obtain ⟨i, hi, rfl⟩ := List.getElem_of_mem h
 exact ⟨i, ds[i]'(by omega), List.getElem?_eq_getElem _, List.getElem?_eq_getElem _⟩
mutual
theorem ht_tm : ∀ (N : Nat) (d : DataW H), Rows.uptoBulk d ≤ N → ∀ p, HT Tryz.prog 32 d p → ∃ t, p = tmc 0 t ∧ tsize t ≤ Rows.uptoBulk d ∧ rgT t
 | 0, d, hN, _, _ => by have := bulk_one d; omega
 | N + 1, d, hN, p, h => by
  obtain ⟨ds, ps, rfl, rfl, hA⟩ := h.agg_inv c_tm
  clear h
  have h := hA
  clear hA
  obtain ⟨d1, ds, p1, ps, rfl, rfl, h1, h⟩ := h.cons_inv
  obtain ⟨d2, ds, p2, ps, rfl, rfl, h2, h⟩ := h.cons_inv
  obtain ⟨d3, ds, p3, ps, rfl, rfl, h3, h⟩ := h.cons_inv
  obtain ⟨d4, ds, p4, ps, rfl, rfl, h4, h⟩ := h.cons_inv
  obtain ⟨d5, ds, p5, ps, rfl, rfl, h5, h⟩ := h.cons_inv
  obtain ⟨rfl, rfl⟩ := h.nil_inv
  obtain ⟨k, rfl, rfl, _⟩ := h1.int_inv c_int
  obtain ⟨n, rfl, rfl, hn⟩ := h2.int_inv c_int
  obtain ⟨r, rfl⟩ := ht_sum h3
  obtain ⟨es, sp, qs, he, rfl, hq⟩ := h4.sl_inv u_tms
  obtain ⟨fs, sp', us, hf, rfl, hu⟩ := h5.sl_inv u_css
  have hb := sl_bulk he
  have hb' := sl_bulk hf
  simp only [Rows.uptoBulk, Rows.uptoBulkAll] at hN ⊢
  obtain ⟨l, rfl, hl, hφ⟩ := HTs.all (enc := tmc 0) (φ := fun d q => tsize q ≤ Rows.uptoBulk d ∧ rgT q) hq fun d hm p hp => ht_tm N d (by have := bulk_mem hm; omega) p hp
  obtain ⟨m, rfl, hm, hψ⟩ := HTs.all (enc := csec 0) (φ := fun d q => csize q ≤ Rows.uptoBulk d ∧ rgS q) hu fun d hm p hp => ht_cs N d (by have := bulk_mem hm; omega) p hp
  have hs := bulk_sum tsize tsizeL rfl (fun _ _ => rfl) hl fun i d a hi hj => (hφ i d a hi hj).1
  have hs' := bulk_sum csize csizeL rfl (fun _ _ => rfl) hm fun i d a hi hj => (hψ i d a hi hj).1
  refine ⟨.mk k n r l m, by simp only [tmc, tms_eq, css_eq], by simp only [tsize]; omega, ?_, rgK_of fun t ht => ?_, rgC_of fun t ht => ?_⟩
  ·have hn' : -9223372036854775808 ≤ n ∧ n ≤ 9223372036854775807 := by simpa [Lit.wf, IntKind.min, IntKind.max, IntKind.signed, IntKind.bits] using hn
   omega
  ·obtain ⟨i, d, g1, g2⟩ := mem_pair hl ht
   exact (hφ i d t g1 g2).2
  ·obtain ⟨i, d, g1, g2⟩ := mem_pair hm ht
   exact (hψ i d t g1 g2).2
theorem ht_cs : ∀ (N : Nat) (d : DataW H), Rows.uptoBulk d ≤ N → ∀ p, HT Tryz.prog 106 d p → ∃ t, p = csec 0 t ∧ csize t ≤ Rows.uptoBulk d ∧ rgS t
 | 0, d, hN, _, _ => by have := bulk_one d; omega
 | N + 1, d, hN, p, h => by
  have hc := c_cs
  obtain ⟨ds, ps, rfl, rfl, hA⟩ := h.agg_inv hc
  clear h
  have h := hA
  clear hA
  obtain ⟨d1, ds, p1, ps, rfl, rfl, h1, h⟩ := h.cons_inv
  obtain ⟨d2, ds, p2, ps, rfl, rfl, h2, h⟩ := h.cons_inv
  obtain ⟨rfl, rfl⟩ := h.nil_inv
  simp only [Rows.uptoBulk, Rows.uptoBulkAll] at hN ⊢
  obtain ⟨q, rfl, hq⟩ := ht_pat _ d1 (Nat.le_refl _) p1 h1
  obtain ⟨t, rfl, ht, hr⟩ := ht_tm N d2 (by omega) p2 h2
  exact ⟨.mk q t, rfl, by simp only [csize]; omega, hr⟩
end
theorem c_kt : comps Tryz.prog 116 = some [(Tryz.prog.cellsOf 28, 28), (Tryz.prog.cellsOf 32, 32)] := by kernel_rfl
theorem c_wd : comps Tryz.prog 26 = some [(1, 22), (1, 23), (1, 24)] := by kernel_rfl
theorem u_kts : Tryz.prog.underlying 24 = some (.slice 116) := by kernel_rfl
theorem ht_kt {d : DataW H} {p : Pu} (h : HT Tryz.prog 116 d p) : ∃ x : KT, p = ktP x ∧ tsize x.2 ≤ Rows.uptoBulk d ∧ rgT x.2 := by
 have hc := c_kt
 obtain ⟨ds, ps, rfl, rfl, hA⟩ := h.agg_inv hc
 clear h
 have h := hA
 clear hA
 obtain ⟨d1, ds, p1, ps, rfl, rfl, h1, h⟩ := h.cons_inv
 obtain ⟨d2, ds, p2, ps, rfl, rfl, h2, h⟩ := h.cons_inv
 obtain ⟨rfl, rfl⟩ := h.nil_inv
 obtain ⟨r, rfl⟩ := ht_sum h1
 obtain ⟨t, rfl, ht, hr⟩ := ht_tm _ d2 (Nat.le_refl _) p2 h2
 exact ⟨(r, t), rfl, by simp only [Rows.uptoBulk, Rows.uptoBulkAll]; omega, hr⟩
theorem bulk_len (l : List (DataW H)) : l.length ≤ Rows.uptoBulkAll l := by
 induction l with
 | nil => simp [Rows.uptoBulkAll]
 | cons x r ih => have := bulk_one x; simp only [Rows.uptoBulkAll, List.length_cons]; omega
theorem ht_wd {d : DataW H} {p : Pu} (h : HT Tryz.prog 26 d p) : ∃ (a b : Pu) (ts : List KT), p = wdP a b ts ∧ ts.length ≤ Rows.uptoBulk d ∧ ∀ x ∈ ts, tsize x.2 ≤ Rows.uptoBulk d ∧ rgT x.2 := by
 obtain ⟨ds, ps, rfl, rfl, hA⟩ := h.agg_inv c_wd
 clear h
 have h := hA
 clear hA
 obtain ⟨d1, ds, p1, ps, rfl, rfl, h1, h⟩ := h.cons_inv
 obtain ⟨d2, ds, p2, ps, rfl, rfl, h2, h⟩ := h.cons_inv
 obtain ⟨d3, ds, p3, ps, rfl, rfl, h3, h⟩ := h.cons_inv
 obtain ⟨rfl, rfl⟩ := h.nil_inv
 obtain ⟨es, sp, qs, he, rfl, hq⟩ := h3.sl_inv u_kts
 have hb := sl_bulk he
 simp only [Rows.uptoBulk, Rows.uptoBulkAll]
 obtain ⟨l, rfl, hl, hφ⟩ := HTs.all (enc := ktP) (φ := fun d (x : KT) => tsize x.2 ≤ Rows.uptoBulk d ∧ rgT x.2) hq fun d hm p hp => ht_kt hp
 have hle := bulk_len es
 refine ⟨p1, p2, l, rfl, by omega, fun x hx => ?_⟩
 obtain ⟨i, d, g1, g2⟩ := mem_pair hl hx
 have := hφ i d x g1 g2
 have hm := bulk_mem (List.mem_of_getElem? g1)
 exact ⟨by omega, this.2⟩
end Go.Proofs.YtkcgkignhpepkaaGreatDoor

/- From a row's condition to a contract: what is alike for all laws. -/
namespace Go.Proofs.YtkcgkignhpepkaaGreatDoor
open Go Hs
open Go.ChangeShapes Go.WideShapes Go.ChangeAt Go.RowKit
/-- A world that holds some package variables. -/
def TabsL (l : List (Nat × Int)) (W : World) : Prop := ∀ g n, (g, n) ∈ l → ∀ j u, ((sumR n).map fun z => Value.int .u8 z)[j]? = some u → W.cell? ⟨g, j, none⟩ = some u
theorem tab_one {W : World} {name : String} {n : Int} {g : Nat} {l : List (String × DataW Unit)} (h : laidMetH Tryz.prog l W)
  (hl : l.filter (fun x => x.1 == name) = [(name, Lib.tabData .u8 (sumR n))]) (hg : Tryz.prog.globalNamed name = some g) (hty : (Tryz.prog.globals[g]?).map (·.type) = some 28) :
  ∀ j u, ((sumR n).map fun z => Value.int .u8 z)[j]? = some u → W.cell? ⟨g, j, none⟩ = some u := by
 have h1 := h.filter (fun x => x.1 == name)
 rw [hl] at h1
 have h2 : laidMet Tryz.prog [(name, Lib.tabData .u8 (sumR n))] W := by
  have := (laidMetH_iff.1 h1).1
  simpa [Lib.tabData, DataW.handleName?] using this
 have h3 := Lib.tabIs_of_head (t := 28) (e := 5) (n := 32) hg hty (by kernel_rfl) (by kernel_rfl) (by kernel_rfl) (by kernel_rfl) h2
 intro j u hj
 have := World.var?_cell hg h3 j
 rw [this, List.getElem?_toArray];exact hj
theorem tyU8 {z : Int} : tyP Tryz.prog 5 (.leaf (.int .u8 z)) = true := (by kernel_rfl : (comps Tryz.prog 5).isNone = true)
theorem tySum {r : List Int} : tyV Tryz.prog 28 (.pu (refP r)) = true := (by kernel_rfl : ((comps Tryz.prog 28).isSome && Tryz.prog.underlyingId 28 == Tryz.prog.underlyingId 28) = true)
theorem lenSum {n : Int} : ((sumR n).map fun z => Value.int .u8 z).length = Tryz.prog.cellsOf 28 := (by simp [sumR] : ((sumR n).map fun z => Value.int .u8 z).length = 32).trans (by kernel_rfl)
def bytL (l : List Int) : List Pu := l.map fun x => .leaf (.int .u8 x)
theorem prs_ints {D : Nat → Nat → Prop} {w : World} (zs : List Int) : PRs Tryz.prog D w (List.replicate zs.length (1, 5)) (bytL zs) (zs.map fun z => Value.int .u8 z) := by
 induction zs with
 | nil => exact .nil
 | cons z zs ih => exact PRs.cons (x := [.int .u8 z]) (.leaf rfl) rfl tyU8 ih
def cfg0 (W : World) : Cfg := { D := fun b _ => b < W.heap.size, ρ := fun _ => none, own := fun _ => none }
def gOf (l : List (Nat × Int)) : List (Nat × TypeId × Pu) := l.map fun x => (x.1, 28, refP (sumR x.2))
theorem gOf_get {l : List (Nat × Int)} {g : Nat} {T : TypeId} {p : Pu} (h : get (gOf l) g = some (T, p)) : ∃ n, (g, n) ∈ l ∧ T = 28 ∧ p = refP (sumR n) := by
 induction l with
 | nil => cases h
 | cons x l ih =>
  obtain ⟨i, n⟩ := x
  simp only [gOf, List.map_cons, get_cons] at h
  split at h
  ·rename_i e; subst e; cases h; exact ⟨n, by simp, rfl, rfl⟩
  ·obtain ⟨m, h1, h2⟩ := ih h
   exact ⟨m, by simp [h1], h2⟩
theorem gl_of {l : List (Nat × Int)} {W : World} (h : TabsL l W) : GL Tryz.prog (gOf l) (cfg0 W) W := by
 intro g T p hg
 obtain ⟨n, hm, rfl, rfl⟩ := gOf_get hg
 have hT := h g n hm
 refine VR.pp (x := (sumR n).map fun z => Value.int .u8 z) (.pu (PR.agg (cs := List.replicate 32 (1, 5)) (by kernel_rfl) (prs_ints (sumR n)))) tySum lenSum fun j u hj => ⟨by rw [Nat.zero_add]; exact hT j u hj, ?_⟩
 ·have := hT j u hj
  show g < W.heap.size
  refine Nat.lt_of_not_le fun hb => ?_
  simp only [World.cell?, Array.getElem?_eq_none hb] at this
  cases this
theorem frag_of {l : List (Nat × Int)} {W : World} (h : TabsL l W) : Frag Tryz.prog (gOf l) (cfg0 W) W [] [] where
 heap := fun l ob h => by cases h
 inj := fun l l' b R R' ob ob' h => by cases h
 dObj := fun l ob b R o h => by cases h
 dLt := fun b o h => h
 own := fun b q k h => by cases h
 gl := gl_of h
/-- A contract, in a world that holds the package variables. -/
theorem call_of {l : List (Nat × Int)} {W : World} (hT : TabsL l W) {f : FuncId} {args : List PV} {xs : Array Value} (hc : FCall Tryz.prog (gOf l) f args (bv true)) (hx : VFs Tryz.prog (cfg0 W) W args xs.toList) :
  Calls Tryz.prog f xs W fun e W' => e = .returned (.bool true) ∧ Below W.heap.size W W' := by
 refine (hc (cfg0 W) W _ (frag_of hT) hx).mono fun e W' ⟨y, C', he, A⟩ => ?_
 subst he
 have hM : ∀ b, ¬ Mset (cfg0 W) [] b := fun b hb => by
  rcases hb with ⟨l, ob, R, h1, _⟩ | ⟨l, p, k, ob, h1, _⟩ <;> cases h1
 refine ⟨?_, ⟨A.os, A.tape, A.output, A.size, fun b hb => A.block b hb (hM b)⟩⟩
 cases A.val with
 | one h hs =>
  have h1 := h.pu_inv
  generalize hc : y.cells.toList = c at h1
  cases h1
  cases y <;> simp_all [Value.cells, valAgg, PV.isAgg]
theorem and_t {a b : Bool} (h1 : a = true) (h2 : b = true) : (a && b) = true := by rw [h1, h2]; rfl
theorem laidOutD : laidOutB Tryz.prog = true := by kernel_rfl
theorem undB : Tryz.prog.underlying 4 = some .bool := by kernel_rfl
/-! ### Arguments -/
section
variable {H : Type} {enc : TypeId × Value → H} {W : World}
theorem arg_ht {al : List TypeId} (hal : dataB Tryz.prog al = true) {t : TypeId} (ht : t ∈ al) {v : Value} {d : DataW H} {ps : List MemPlace} (h : DataW.Trod enc Tryz.prog W 0 (fun _ => true) true t v d ps) :
  ∃ p, HT Tryz.prog t d p ∧ PR Tryz.prog (cfg0 W).D W p v.cells.toList := by
 obtain ⟨fuel, hf⟩ := h
 obtain ⟨p, h1, h2, _, _⟩ := trod_ht tbl hal fuel t _ _ ht hf
 exact ⟨p, h1, h2⟩
end
end Go.Proofs.YtkcgkignhpepkaaGreatDoor

/- StepSteps: the card of its second form. -/
namespace Go.Proofs.YtkcgkignhpepkaaGreatDoor.stepSteps
open Go Hs
open Go.ChangeShapes Go.WideShapes Go.ChangeAt Go.RowKit
def tabs : List (Nat × Int) := [(0, 11), (4, 21)]
theorem tabs_of {W : World} (h : laidMetH Tryz.prog Rows.stepStepsUptoRow.laid W) : TabsL tabs W := by
 intro g n hm
 simp only [tabs, List.mem_cons, Prod.mk.injEq, List.not_mem_nil, or_false] at hm
 rcases hm with ⟨rfl, rfl⟩ | ⟨rfl, rfl⟩
 ·exact tab_one (name := "hoarstone/hoarstonekit.State") h (by rfl) (by kernel_rfl) (by kernel_rfl)
 ·exact tab_one (name := "hoarstone/hoarstonekit.Inc") h (by rfl) (by kernel_rfl) (by kernel_rfl)
def al : List TypeId := [26, 22, 23, 24, 130, 136, 116, 28, 5, 128, 134, 9, 3, 126, 53, 58, 56, 4, 54, 132, 167, 32, 29, 30, 106, 104, 102]
theorem al_ok : dataB Tryz.prog al = true := by kernel_rfl
theorem par : Tryz.f7.params = #[26, 32, 3] := by kernel_rfl
theorem three {Q : TypeId → Value → Prop} {a b c : TypeId} {x y z : Value} (h : ∀ (j : Nat) t v, (#[a, b, c] : Array TypeId)[j]? = some t → (#[x, y, z] : Array Value)[j]? = some v → Q t v) : Q a x ∧ Q b y ∧ Q c z :=
 ⟨h 0 a x rfl rfl, h 1 b y rfl rfl, h 2 c z rfl rfl⟩
theorem tm_agg (t : Tm) : true = (PV.pu (tmc 0 t)).isAgg := by cases t; rfl
set_option maxRecDepth 100000 in
/-- The contract. -/
theorem contract (H : Type) (enc : TypeId × Value → H) (W : World) (base : Nat) (args : Array Value) (ds gs : List (DataW H)) (before : List MemPlace)
  (hval : ∀ (j : Nat) t v, Tryz.f7.params[j]? = some t → args[j]? = some v → Value.okWide Tryz.prog W .any base t v)
  (hW : DataW.Whole enc Tryz.prog Tryz.f7.params.toList Rows.stepStepsSpec.vars false W args.toList ds gs before) (hL : laidMetH Tryz.prog Rows.stepStepsUptoRow.laid W) (hk : Rows.uptoSmall H (ds ++ gs) = true) :
  Calls Tryz.prog 7 args W fun e W' => ∃ v, e = .returned v ∧ Rows.stepStepsSpec.post enc Tryz.prog Tryz.f7 false true false false W args v W' := by
 have hT := tabs_of hL
 have hW' := hW
 obtain ⟨p, q, hA0, hV, rfl, hfz, hnd⟩ := hW
 have hA : DataW.TrodAll enc Tryz.prog W 0 (fun _ => true) true Tryz.f7.params.toList args.toList ds p := hA0
 rw [par] at hA hval
 obtain ⟨v0, vs0, d0, ds0, p0, q0, hargs, rfl, rfl, h0, r0⟩ := trodAll_cons hA
 obtain ⟨v1, vs1, d1, ds1, p1, q1, e1, rfl, rfl, h1, r1⟩ := trodAll_cons r0
 obtain ⟨v2, vs2, d2, ds2, p2, q2, e2, rfl, rfl, h2, r2⟩ := trodAll_cons r1
 obtain ⟨rfl, rfl, rfl⟩ := trodAll_nil r2
 subst e2 e1
 obtain rfl : args = #[v0, v1, v2] := by cases args; simp_all
 obtain ⟨rfl, rfl⟩ := trodVars_none hV
 obtain ⟨hv0, hv1, hv2⟩ := three hval
 clear hval
 obtain ⟨most, rfl, rfl, rfl, wm⟩ := open_int c_int hv2 h2
 simp only [List.append_nil] at hW' hA0 hk
 have hbulk : Rows.uptoBulkAll [d0, d1, .lit (.int .i64 most)] ≤ 1048576 := of_decide_eq_true hk
 simp only [Rows.uptoBulkAll] at hbulk
 have hlt : ∀ x ∈ p0 ++ p1, x.block < W.heap.size := fun x hx => by simpa using hW'.lt x (by simpa using hx)
 obtain ⟨u0, t0, x0⟩ := arg_ht al_ok (by simp [al]) h0
 obtain ⟨u1, t1, x1⟩ := arg_ht al_ok (by simp [al]) h1
 obtain ⟨a, b, ts, rfl, hl, hts⟩ := ht_wd t0
 obtain ⟨t, rfl, ht, hrg⟩ := ht_tm _ d1 (Nat.le_refl _) _ t1
 have hagg0 : valAgg v0 = true := agg_of (by kernel_rfl) hv0
 have hagg1 : valAgg v1 = true := agg_of (by kernel_rfl) hv1
 have hc := stepSteps_c a b ts t most (by omega) (fun x hx => by have := (hts x hx).1; omega) (by omega) hrg (fun x hx => (hts x hx).2)
 refine (call_of (l := tabs) hT hc (xs := #[v0, v1, .int .i64 most]) (.cons (.pu x0) hagg0 (.cons (.pu x1) (hagg1.trans (tm_agg t)) (.cons (.pu (.leaf rfl)) rfl .nil)))).mono fun e W' ⟨he, hb⟩ => ?_
 subst he
 have s0 := Below.trod laidOutD (by kernel_rfl) (of_decide_eq_true (by kernel_rfl)) h0 hb fun x hx => hlt x (by simp [hx])
 have s1 := Below.trod laidOutD (by kernel_rfl) (of_decide_eq_true (by kernel_rfl)) h1 hb fun x hx => hlt x (by simp [hx])
 refine ⟨_, rfl, _, _, _, [], p0 ++ (p1 ++ ([] ++ [])), [], hW', ?_, ?_, rfl, ?_, fun h => by cases h⟩
 ·exact trodAll_mk1 (shut_bool undB _)
 ·exact trodAll_mk3 s0 s1 (shut_int c_int wm)
 ·simpa using hb.frame _
theorem own : ownKnob Tryz.prog.godebug = none := by kernel_rfl
/-- A world for the witness. -/
noncomputable def lay (h : Array Obj) (g : Nat) (n : Int) : Array Obj := h.modify g fun
 | .cells _ t frozen => .cells ((sumR n).map fun z => Value.int .u8 z).toArray t frozen
 | o => o
noncomputable def zeros : Array Value := #[.agg #[.slice none 0 0, .slice none 0 0, .slice none 0 0], .agg (((Value.int .i64 0 :: Value.int .i64 0 :: List.replicate 32 (Value.int .u8 0)) ++ [Value.slice none 0 0, Value.slice none 0 0]).toArray), .int .i64 0]
noncomputable def laidWorld (os : Os) : World :=
 { World.holding Tryz.prog os ⟨#[], #[], []⟩ with heap := tabs.foldl (fun h (x : Nat × Int) => lay h x.1 x.2) (World.holding Tryz.prog os ⟨#[], #[], []⟩).heap }
theorem laid_met (os : Os) : laidMet Tryz.prog Rows.stepStepsUptoRow.laid ((laidWorld os).forCall (fun _ _ => 0) ⟨#[], zeros, []⟩).memory :=
 laidMet_of_run' 8 (by kernel_rfl) (by kernel_rfl)
noncomputable def zeroSum {H : Type} : DataW H := .agg (List.replicate 32 (.lit (.int .u8 0)))
noncomputable def zeroDs {H : Type} : List (DataW H) := [.agg [.nil, .nil, .nil], .agg [.lit (.int .i64 0), .lit (.int .i64 0), zeroSum, .nil, .nil], .lit (.int .i64 0)]
theorem reads (os : Os) {H : Type} (enc : TypeId × Value → H) : ∃ places, DataW.whole enc Tryz.prog ((laidWorld os).forCall (fun _ _ => 0) ⟨#[], zeros, []⟩).memory Tryz.f7.params.toList Rows.stepStepsSpec.vars false zeros.toList 8 = some (zeroDs, [], places) :=
 ⟨[], by kernel_rfl⟩
set_option maxRecDepth 100000 in
theorem lifted (os : Os) (started : os.Started) (H : Type) (enc : TypeId × Value → H) (F : Stop.Interp) :
  ReturnsInHanded {} Tryz.checked os 7 .any ((Rows.OpenSpec.upto Rows.stepStepsSpec).preRow enc Tryz.prog Tryz.f7 Rows.stepStepsUptoRow.domain false Rows.stepStepsUptoRow.laid) (((Rows.OpenSpec.upto Rows.stepStepsSpec).at F).post enc Tryz.prog Tryz.f7 false true false false) := by
 obtain ⟨places, hx⟩ := reads os enc
 refine returnsInHanded_of_row (C := Tryz.checked) (s := Rows.OpenSpec.upto Rows.stepStepsSpec) own started (by kernel_rfl) Tryz.func7
  (witness_row_at (enc := enc) (C := Tryz.checked) false (laidWorld os) zeros rfl (by kernel_rfl) (by kernel_rfl) (by kernel_rfl)
   (OpenSpec.preRow_of_cond 8 hx (by kernel_rfl) (fun k hk => by cases hk; kernel_rfl) (by kernel_rfl) (laid_met os))) ?_
 intro W base args ds gs before hval hW _ hcond _ hL _ _
 exact contract H enc W base args ds gs before hval hW hL (hcond _ rfl)
set_option maxHeartbeats 100000000 in
theorem facts : joinedFacts Tryz.pinned.checked.prog 7 Tryz.f7 (Rows.OpenSpec.upto Rows.stepStepsSpec).bare Rows.stepStepsUptoRow = true := by
 unfold joinedFacts
 repeat' (with_reducible refine and_t ?_ ?_)
 all_goals (as_aux_lemma => kernel_rfl)
theorem said : Rows.StepStepsUptoSaid :=
 OpenClaim.holds_of_cond 7 Tryz.f7 rfl rfl rfl rfl rfl rfl rfl ⟨rfl, rfl, rfl, rfl, rfl⟩ rfl rfl rfl rfl rfl (by kernel_rfl) Tryz.func7 facts
  (of_decide_eq_true (by kernel_rfl)) (by unfold Func.isWrapper; first | (rw [if_pos (by decide +kernel)]; kernel_rfl) | (rw [if_neg (by decide +kernel)]; exact ⟨rfl, rfl⟩))
  (fun os started H enc _ F => by rw [OpenClaim.pre_eq_preRow]; exact lifted os started H enc F)
theorem plain (f : FuncId) (fn : Func) (hf : Tryz.pinned.checked.prog.funcNamed "hoarstone/hoarstonelaw16.StepSteps" = some f) (hfn : Tryz.pinned.checked.prog.funcs[f]? = some fn) :
  false = Tryz.pinned.checked.prog.looks [] ∧ ∀ (j : Nat) t, fn.params[j]? = some t → Tryz.pinned.checked.prog.wantsStandIn t = false := by
 obtain rfl : f = 7 := Option.some.inj ((show Tryz.prog.funcNamed "hoarstone/hoarstonelaw16.StepSteps" = some 7 by kernel_rfl).symm.trans hf) |>.symm
 obtain rfl : fn = Tryz.f7 := (Option.some.inj (Tryz.func7.symm.trans hfn)).symm
 refine ⟨by kernel_rfl, fun j t ht => ?_⟩
 rw [par] at ht
 have hm := Array.mem_of_getElem? ht
 have q0 : Tryz.prog.wantsStandIn 26 = false := by kernel_rfl
 have q1 : Tryz.prog.wantsStandIn 32 = false := by kernel_rfl
 have q2 : Tryz.prog.wantsStandIn 3 = false := by kernel_rfl
 simp only [List.mem_toArray, List.mem_cons, List.not_mem_nil, or_false] at hm
 rcases hm with rfl | rfl | rfl
 ·exact q0
 ·exact q1
 ·exact q2
theorem card : Rows.StepStepsUptoCardSaid :=
 Claim7.holds_tied_plain_at .later [] _ _ _ _ said (fun _ h => by cases h) (by kernel_rfl) (fun _ h => by cases h) stepStepsUpto_row_tie rfl ⟨rfl, rfl⟩ (by kernel_rfl) rfl plain (by kernel_rfl)
end Go.Proofs.YtkcgkignhpepkaaGreatDoor.stepSteps

