/- Part 7 of the proof: lemmas on walks and the walks of the functions, in their order. -/
import Derived.Test.YtkcgkignhpepkaaGreatDoorR6
import Derived.Test.YtkcgkignhpepkaaGreatDoorRows
import Derived.Test.YtkcgkignhpepkaaGreatDoorCards
import Derived.Test.YtkcgkignhpepkaaGreatDoorTie
import Derived.WalkKit
import Derived.ProofKit
import Derived.OpenShut
import Derived.Lib.LaidTab
import Derived.LaidSub
import Derived.Deep.DeepHandedRow
set_option linter.unusedSimpArgs false
set_option linter.unusedVariables false
/- StepRuns: the walk. -/
namespace Go.Proofs.YtkcgkignhpepkaaGreatDoor
open Go Hs
theorem bin_neqB (x y : Bool) : binV Tryz.prog .neq 4 (bv x) (bv y) = some (bv (x != y)) := by
 have hb : Tryz.prog.underlying 4 = some .bool := by kernel_rfl
 simp [binV, hb]
theorem check_nil (t : Tm) : stepCheckM [] t = checkM t 0 0 := by simp [stepCheckM, firstE, orE, dupM]
theorem run_eq {ts : List KT} (hb : ∀ x ∈ ts, Rt x.2) {t : Tm} (hc : stepCheckM ts t = 0) (h : Rt t) (fuel : Int) : runM ts t fuel = rrunM ts t fuel := by
 obtain ⟨k1, k2, k3, k4⟩ := stepCheck_ok hc
 unfold runM rrunM
 rw [if_pos hc]
 split
 ·rfl
 ·have hA : ∀ (left steps : Nat) (t : Tm), Rt t → tsize t ≤ 3000 → (ranM ts left steps t).2 = 0 → ((ranM ts left steps t).1.kind = 0 ∨ (ranM ts left steps t).1.kind = 9) → Rt (ranM ts left steps t).1.term := by
   have hE : ∀ {steps : Nat} {t : Tm} {e : EndM}, Rt t → ranE ts steps t = some e → (e.kind = 0 ∨ e.kind = 9) → Rt e.term := fun {steps t e} ht h h0 => by
    unfold ranE at h
    split at h
    ·simp at h; subst h; exact ht
    ·split at h
     ·rename_i h9
      simp at h; subst h
      have hk := kind9 h9
      have hw := gd_place ht.gd
      obtain ⟨x, hx⟩ := len1 (gd_sh hw) (.inr (.inr hk))
      have hgx := gd_kid hw hx
      rw [more_let0 (by omega), Int.add_zero] at hgx
      simp only [hx, Option.getD_some]
      exact ⟨hgx, lc_kid (lc_walk ht.lc) hx⟩
     ·split at h
      ·simp at h; subst h; simp at h0
      ·cases h
   intro left
   induction left with
   | zero =>
    intro steps t ht _
    simp only [ranM]
    split
    ·rename_i e he; exact fun _ h => hE ht he h
    ·exact fun _ h => by simp at h
   | succ left ih =>
    intro steps t ht hz
    simp only [ranM]
    split
    ·rename_i e he; exact fun _ h => hE ht he h
    ·rename_i he
     split
     ·exact fun h => by simp at h
     ·rename_i hg
      have hls := long_size (mn := 3000) (md := 200) (t := nextM ts t) (d := 1) (c := 0) (by omega) (by simpa using hg)
      have hv : ¬ valM t = true := fun hv => by simp [ranE, hv] at he
      have h9 : ¬ kindM ts t (placeM t) = 9 := fun h9 => by simp [ranE, hv, h9] at he
      have h8 : ¬ kindM ts t (placeM t) = 8 := fun h8 => by simp [ranE, hv, h8] at he
      have h19 := kind19 (ts := ts) (t := t)
      exact ih _ _ (rt_step hb ht (by omega) (by omega)) (by omega)
  have hT := ran_term (ts := ts) fuel.toNat 0 t
  have hR := hA fuel.toNat 0 t h (by have := (check_sh k4).2; omega)
  generalize ranM ts fuel.toNat 0 t = r at hT hR
  obtain ⟨e, err⟩ := r
  dsimp only at hT hR ⊢
  unfold rfin
  dsimp only
  by_cases h0 : err = 0
  ·rw [if_pos h0, if_pos h0]
   have hn : (longT 300 60 1 0 noneM).1 = false := by decide
   by_cases hk : e.kind ≠ 0 ∧ e.kind ≠ 9
   ·rw [if_pos hk, hT hk.1 hk.2, hn]; rfl
   ·rw [if_neg hk]
    rw [(hR h0 (by omega)).check 60 8]
    cases (longT 300 60 1 0 e.term).1 <;> simp
  ·rw [if_neg h0, if_neg h0]
theorem tmT_agg (t : Tm) : true = (PV.pu (tmc 0 t)).isAgg := by cases t; rfl
theorem stepV_val {C : Cfg} {w : World} {m : Nat} {t : Tm} {e : Int} {y : Value} (h : VW Tryz.prog C w (stepV m (t, e)) y) : ∃ L : List Value, y = .tuple #[.agg L.toArray, .int .i64 e] ∧ PR Tryz.prog C.D w (tmc m t) L := by
 cases h with
 | one h hs =>
  generalize y.cells.toList = z at h
  cases h
 | @tup _ xs h =>
  obtain ⟨l⟩ := xs
  simp only at h
  cases h with | @cons _ _ y0 _ hv hsa h =>
  cases h with | @cons _ _ y1 _ hv1 hsa1 h =>
  cases h
  have e1 : y1 = .int .i64 e := (VW.one hv1 hsa1).leaf_inv.1
  have h0 : valAgg y0 = true := by rw [hsa]; cases t; rfl
  subst e1
  cases y0 with
  | agg arr => exact ⟨arr.toList, rfl, by simpa [Value.cells] using hv.pu_inv⟩
  | _ => cases h0
theorem col_ref (m : Nat) : ∀ r : List Int, colsB m (r.map fun n => Pu.leaf (.int .u8 n)) = true
 | [] => rfl
 | _ :: r => by simp only [List.map_cons, colsB, colB, col_ref m r, Bool.and_self]
mutual
theorem col_pt (m : Nat) : ∀ p : Pat, colB m (patc m p) = true
 | .mk k n r ks => by simp [patc, colB, colsB, refP, col_ref m r, col_pts m ks]
theorem col_pts (m : Nat) : ∀ ps : List Pat, colsB m (patsc m ps) = true
 | [] => rfl
 | p :: ps => by simp [patsc, colsB, col_pt m p, col_pts m ps]
end
mutual
theorem col_tm (m : Nat) : ∀ t : Tm, colB m (tmc m t) = true
 | .mk k n r ks cs => by simp [tmc, colB, colsB, refP, col_ref m r, col_tms m ks, col_css m cs]
theorem col_tms (m : Nat) : ∀ ts : List Tm, colsB m (tmsc m ts) = true
 | [] => rfl
 | t :: ts => by simp [tmsc, colsB, col_tm m t, col_tms m ts]
theorem col_css (m : Nat) : ∀ cs : List Cs, colsB m (cssc m cs) = true
 | [] => rfl
 | c :: cs => by simp [cssc, colsB, col_cs m c, col_css m cs]
theorem col_cs (m : Nat) : ∀ c : Cs, colB m (csec m c) = true
 | .mk p t => by simp [csec, colB, colsB, col_pt m p, col_tm m t]
end
theorem alikeB_refl (e : EndM) (r : Int) : alikeB e e r r = true := by simp [alikeB, sameT_refl]
set_option maxHeartbeats 8000000 in
theorem stepRuns_c (a b : Pu) (ts : List KT) (t u : Tm) (fuel : Int) (hl : ts.length < 2^40) (hts : ∀ x ∈ ts, tsize x.2 < 2^40) (hN : tsize t < 2^40) (hM : tsize u < 2^40) (hrg : rgT t) (hrgu : rgT u) (hrgs : ∀ x ∈ ts, rgT x.2) :
  FCall Tryz.prog gA 8 [.pu (wdP a b ts), .pu (tmc 0 t), .pu (tmc 0 u), iv .i64 fuel] (bv true) := by
 refine FCall.of_tri tbl 152 Tryz.func8 rfl rfl rfl fun w0 M ρ0 D0 => ?_
 refine yR ?_;refine s_box SS 4 ?_;refine s_box SS 5 ?_;refine s_box SS 6 ?_;refine yB ?_;refine e_seqN [4, 5, 6] ?_;refine Y33 ?_;refine s_val (v_callD (fun _ => lgreat_c a b ts t hl hts hN)) ?_;refine Y63 ?_;refine s_gg zG (v_callD (fun _ => great_c u hM)) ?_;refine yO ?_;refine Y0 ?_;refine Tri.cond rfl (fun h0 => ?_) (fun h0 => ?_)
 ·skip
  refine yR ?_;refine s_val (v_callD (fun _ => awake_c)) ?_;refine Y2 ?_;exact Tri.ret ⟨.inr rfl, ret1 rfl resV_tmp (VImp.refl _)⟩
 ·skip
  obtain ⟨h00, h01⟩ : wgreatM ts t = false ∧ greatM u = false := by simpa using h0
  obtain ⟨hl2, hN2, hts2⟩ := wgreat_ok h00
  have hM2 := great_size h01
  obtain ⟨en, er, hR⟩ : ∃ en er, runM ts t fuel = (en, er) := ⟨_, _, rfl⟩
  obtain ⟨sm, sr, hS⟩ : ∃ sm sr, sameM ts t u fuel = (sm, sr) := ⟨_, _, rfl⟩
  obtain ⟨sn, sg, hG⟩ : ∃ sn sg, mseenM t = (sn, sg) := ⟨_, _, rfl⟩
  have hcn := r16check_c (G := gA) kdN kaN [] t (by simp) (by simp) hN
  rw [check_nil] at hcn
  refine Tri.skip ?_;refine Y14 ?_;refine yP ?_;refine s_val (v_callD (fun _ => ownWorld_c ts (by omega) (fun x hx => by have := hts2 x hx; omega))) ?_;refine yL ?_;refine s_val (v_callD (fun _ => kitOwnTerm_c _ t (Nat.le_refl _) (by omega))) ?_;refine yL ?_;refine s_val (v_callD (fun _ => kitOwnTerm_c _ u (Nat.le_refl _) (by omega))) ?_;refine s_alloc SS 9 ?_;refine s_alloc SS 10 ?_;refine s_alloc SS 11 ?_;refine yS ?_;refine yS ?_;refine yS ?_;refine e_drawN [9, 10, 11] ?_;refine Y33 ?_;refine s_val (v_callD (fun _ => r16check_c a b ts t hl hts hN)) ?_;refine Y10 ?_;refine Y1 ?_;refine yT ?_;refine yL ?_;refine s_val (v_callD (fun _ => hcn)) ?_;refine yA ?_;refine Y10 ?_;refine yR ?_;refine s_alloc SS 15 ?_;refine s_alloc SS 16 ?_;refine e_seqN [15, 16] ?_;refine yR ?_;refine s_alloc SS 17 ?_;refine e_seqN [17] ?_;refine yR ?_
  refine yB ?_;refine e_seq ?_;refine Y34 ?_;refine Tri.cutW (σ := Unit) (fun q => ⟨[(4, .ptr 4 [] 26), (5, .ptr 5 [] 32), (6, .ptr 6 [] 32), (9, .ptr 9 [] 26), (10, .ptr 10 [] 32), (11, .ptr 11 [] 32), (15, .ptr 15 [] 87), (16, .ptr 16 [] 87), (17, .ptr 17 [] 32), (3, iv .i64 fuel), (12, iv .i64 (stepCheckM ts t)), (13, iv .i64 (stepCheckM ts t)), (14, iv .i64 sg), (18, bv false)], [(4, .var 26 (.pu (wdP a b ts))), (5, .var 32 (.pu (tmc 0 t))), (6, .var 32 (.pu (tmc 0 u))), (9, .var 26 (.pu (wdP kdN kaN ts))), (10, .var 32 (.pu (tmc 0 t))), (11, .var 32 (.pu (tmc 0 u))), (15, .var 87 (.pu (rendP endZ))), (16, .var 87 (.pu (rendP endZ))), (17, .var 32 (.pu (tmc 0 sn)))]⟩) ?_ (fun q => ?_)
  ·skip
   refine tQ ?_;refine Tri.cond rfl (fun h1 => ?_) (fun h1 => ?_)
   ·skip
    have h1' : checkM t 0 0 = 0 := by simpa using h1
    rw [mseenM, if_pos h1'] at hG
    refine Y19 ?_;refine Y6 ?_;refine s_val (v_callD (fun _ => rvalue_c _ t (Nat.le_refl _) hN)) ?_;refine Y0 ?_;refine Tri.cond rfl (fun h2 => ?_) (fun h2 => ?_)
    ·skip
     rw [if_pos h2] at hG
     simp only [Prod.mk.injEq] at hG
     obtain ⟨rfl, rfl⟩ := hG
     refine Y6 ?_;refine s_val (v_callD (fun _ => rseen_c _ t (Nat.le_refl _) (by omega))) ?_;refine yS ?_;refine yB ?_;refine e_seq ?_
     refine ⟨(), ?_, ?_⟩
     ·exact zW
     ·exact zW
    ·skip
     rw [if_neg (by rw [h2]; decide)] at hG
     simp only [Prod.mk.injEq] at hG
     obtain ⟨rfl, rfl⟩ := hG
     unfold noneM
     refine Tri.skip ?_
     refine ⟨(), ?_, ?_⟩
     ·exact zW
     ·exact zW
   ·skip
    have h1' : ¬ checkM t 0 0 = 0 := by simpa using h1
    rw [mseenM, if_neg h1'] at hG
    simp only [Prod.mk.injEq] at hG
    obtain ⟨rfl, rfl⟩ := hG
    unfold noneM
    refine Tri.skip ?_
    refine ⟨(), ?_, ?_⟩
    ·exact zW
    ·exact zW
  ·skip
   refine Y34 ?_;refine Tri.cutW (σ := Unit) (fun q => ⟨[(4, .ptr 4 [] 26), (5, .ptr 5 [] 32), (6, .ptr 6 [] 32), (9, .ptr 9 [] 26), (10, .ptr 10 [] 32), (11, .ptr 11 [] 32), (15, .ptr 15 [] 87), (17, .ptr 17 [] 32), (3, iv .i64 fuel), (12, iv .i64 er), (13, iv .i64 sr), (14, iv .i64 sg), (18, bv sm)], [(4, .var 26 (.pu (wdP a b ts))), (5, .var 32 (.pu (tmc 0 t))), (6, .var 32 (.pu (tmc 0 u))), (9, .var 26 (.pu (wdP kdN kaN ts))), (10, .var 32 (.pu (tmc 0 t))), (11, .var 32 (.pu (tmc 0 u))), (15, .var 87 (.pu (rendP en))), (17, .var 32 (.pu (tmc 0 sn)))]⟩) ?_ (fun q => ?_)
   ·skip
    refine tQ ?_;refine Tri.cond rfl (fun h3 => ?_) (fun h3 => ?_)
    ·skip
     have h3' : stepCheckM ts t = 0 := by simpa using h3
     obtain ⟨k1, k2, k3, k4⟩ := stepCheck_ok h3'
     have hb : ∀ x ∈ ts, Rt x.2 := fun x hx => check_rt (k2 x hx) (hrgs x hx)
     have hr := check_rt k4 hrg
     have hbz : ∀ x ∈ ts, gdT 0 x.2 ∧ tsize x.2 ≤ 300 := fun x hx => ⟨(hb x hx).gd, (check_sh (k2 x hx)).2⟩
     have hz := (check_sh k4).2
     have hrr := rrun_c (G := gA) a b ts hl hbz t hr.gd (by omega) fuel
     rw [← run_eq hb h3' hr, hR] at hrr
     rw [sameM, if_pos h3', hR] at hS
     dsimp only at hS
     refine Y33 ?_;refine yM ?_;refine s_val (v_callD (fun _ => hrr)) ?_;refine Y35 ?_;refine yS ?_;refine Y10 ?_;refine Y33 ?_;refine s_val (v_callD (fun _ => r16check_c a b ts u hl hts hM)) ?_;refine Y47 ?_;refine Tri.cond rfl (fun h4 => ?_) (fun h4 => ?_)
     ·skip
      have h4' : stepCheckM ts u = 0 := by simpa using h4
      have k5 := (stepCheck_ok h4').2.2.2
      have hru := check_rt k5 hrgu
      have hzu := (check_sh k5).2
      rw [if_pos h4'] at hS
      refine Y1 ?_;refine Y47 ?_;refine Tri.cond rfl (fun h5 => ?_) (fun h5 => ?_)
      ·skip
       have h5' : er = 0 := by simpa using h5
       rw [if_pos h5'] at hS
       obtain ⟨eu, ur, hU⟩ : ∃ eu ur, runM ts u fuel = (eu, ur) := ⟨_, _, rfl⟩
       have hrv := rrun_c (G := gA) a b ts hl hbz u hru.gd (by omega) fuel
       rw [← run_eq hb h4' hru, hU] at hrv
       rw [hU] at hS
       dsimp only at hS
       have hq1 := (run_ok (ts := ts) (t := t) fuel).2
       have hq2 := (run_ok (ts := ts) (t := u) fuel).2
       rw [hR] at hq1
       rw [hU] at hq2
       dsimp only at hq1 hq2
       refine Y33 ?_;refine yM ?_;refine s_val (v_callD (fun _ => hrv)) ?_;refine Y35 ?_;refine yS ?_;refine Y10 ?_;refine Y12 ?_;refine Y63 ?_;refine xL ?_;refine s_gg zG (v_callD (fun _ => ralike_c en eu (by omega) (by omega))) ?_;refine yN ?_;refine Y10 ?_
       have hfs : sr = ur ∧ sm = (ur == 0 && alikeM en eu) := by
        by_cases h0 : ur = 0
        ·rw [if_pos h0] at hS
         simp only [Prod.mk.injEq] at hS
         exact ⟨by rw [← hS.2, h0], by rw [← hS.1]; simp [h0]⟩
        ·rw [if_neg h0] at hS
         simp only [Prod.mk.injEq] at hS
         exact ⟨hS.2.symm, by rw [← hS.1]; simp [h0]⟩
       obtain ⟨rfl, rfl⟩ := hfs
       refine ⟨(), ?_, ?_⟩
       ·exact zW
       ·exact zW
      ·skip
       have h5' : ¬ er = 0 := by simpa using h5
       rw [if_neg h5'] at hS
       simp only [Prod.mk.injEq] at hS
       obtain ⟨rfl, rfl⟩ := hS
       refine Tri.skip ?_
       refine ⟨(), ?_, ?_⟩
       ·exact zW
       ·exact zW
     ·skip
      have h4' : ¬ stepCheckM ts u = 0 := by simpa using h4
      rw [if_neg h4'] at hS
      simp only [Prod.mk.injEq] at hS
      obtain ⟨rfl, rfl⟩ := hS
      refine Tri.skip ?_
      refine ⟨(), ?_, ?_⟩
      ·exact zW
      ·exact zW
    ·skip
     have h3' : ¬ stepCheckM ts t = 0 := by simpa using h3
     rw [runM, if_neg h3'] at hR
     rw [sameM, if_neg h3'] at hS
     simp only [Prod.mk.injEq] at hR hS
     obtain ⟨rfl, rfl⟩ := hR
     obtain ⟨rfl, rfl⟩ := hS
     refine Tri.skip ?_
     refine ⟨(), ?_, ?_⟩
     ·exact zW
     ·exact zW
   ·skip
    have hzk := run_ok (ts := ts) (t := t) fuel
    rw [hR] at hzk
    have hsz : tsize sn ≤ 800 := by
     have h1 := seen_size t
     have hn1 : tsize noneM = 1 := by simp [noneM, tsize, tsizeL, csizeL]
     unfold mseenM at hG
     repeat' split at hG
     all_goals (simp only [Prod.mk.injEq] at hG; obtain ⟨rfl, _⟩ := hG; omega)
    have hrun := run_cN (G := gA) kdN kaN ts t fuel hts hN
    rw [hR] at hrun
    have hsame := same_c (G := gA) kdN kaN ts t u fuel hts hN hM
    rw [hS] at hsame
    have hseen := stepSeen_c (G := gA) t hN
    rw [hG] at hseen
    refine Tri.toR [4, 5, 6, 9, 10, 11, 15, 17] rfl rfl (by simp) fun C1 a1 w1 M1 hs1 hpos hM1 => ?_
    refine TriR.seq ?_;refine Y33 ?_;refine yM ?_;refine s_val (v_callN (fun m n h => ranVm_low h _) (fun _ => hrun)) ?_;refine Y35 ?_;refine s_alloc SS 19 ?_;refine yS ?_;refine yA ?_;refine e_seqN [19] ?_
    refine ⟨rfl, ?_⟩
    refine TriR.seq ?_;refine Y33 ?_;refine yL ?_;refine yM ?_;refine s_val (v_callD (fun _ => hsame)) ?_;refine Y65 ?_;refine Y10 ?_
    refine ⟨rfl, ?_⟩
    intro C2 a2 w2 hs2
    have hm12 : w1.heap.size ≤ w2.heap.size := hs2.framed.size
    obtain ⟨b19, c19, E19, ρ19, _, h19, p19, z19⟩ := hs2.obj_cells (l := 19) (T := 65) (p := endPm w1.heap.size en) rfl
    obtain ⟨b10, c10, E10, ρ10, _, h10, p10, z10⟩ := hs2.obj_cells (l := 10) (T := 32) (p := tmc 0 t) rfl
    obtain ⟨b15, c15, E15, ρ15, _, h15, p15, z15⟩ := hs2.obj_cells (l := 15) (T := 87) (p := rendP en) rfl
    obtain ⟨b17, c17, E17, ρ17, _, h17, p17, z17⟩ := hs1.obj_cells (l := 17) (T := 32) (p := tmc 0 sn) rfl
    have h17' := hs1.met hM1 hs2 h17
    have s10 := hs2.ptr_val (i := 10) rfl ρ10 rfl
    have s15 := hs2.ptr_val (i := 15) rfl ρ15 rfl
    have s17 := hs2.ptr_val (i := 17) rfl ((hs2.kin.rho 17 (by simp)).trans ρ17) rfl
    have s19 := hs2.ptr_val (i := 19) rfl ρ19 rfl
    have s12 := hs2.leaf_val (i := 12) (v := .int .i64 er) rfl
    have s13 := hs2.leaf_val (i := 13) (v := .int .i64 sr) rfl
    have s14 := hs2.leaf_val (i := 14) (v := .int .i64 sg) rfl
    have s18 := hs2.leaf_val (i := 18) (v := .bool sm) rfl
    have s20 := hs2.leaf_val (i := 20) (v := .int .i64 er) rfl
    have s21 := hs2.leaf_val (i := 21) (v := .bool sm) rfl
    have s22 := hs2.leaf_val (i := 22) (v := .int .i64 sr) rfl
    obtain ⟨x4, s4, _⟩ := hs2.env 4 _ rfl
    obtain ⟨x5, s5, _⟩ := hs2.env 5 _ rfl
    obtain ⟨x6, s6, _⟩ := hs2.env 6 _ rfl
    obtain ⟨x9, s9, _⟩ := hs2.env 9 _ rfl
    obtain ⟨x11, s11, _⟩ := hs2.env 11 _ rfl
    obtain ⟨x0, lt, x1, hx, h0l, hltl, plt⟩ := endm_cells p19
    have hsoft : softT w1.heap.size w2.heap.size w2 3000 lt := softT_of hpos (Nat.le_refl _) 3000 en.term lt hzk.2 (by omega) plt
    have hlt2 : ∀ {b : Nat} {o : Obj}, w2.heap[b]? = some o → b < w2.heap.size := fun h => heap_lt h
    refine wpIn_seq (RTri.use (n := 152) (fun e env' w' => e = .normal ∧ ∃ (C3 : Cfg) (w3 : World) (L23 : List Value) (cz : Array Value), After Tryz.prog C2 w2 [] [] C3 w3 [] (stepV w2.heap.size (sn, sg)) (.tuple #[.agg L23.toArray, .int .i64 sg]) ∧ PR Tryz.prog C3.D w3 (tmc w2.heap.size sn) L23 ∧ cz.size = Tryz.prog.cellsOf 32 ∧ w' = (w3.alloc (.cells cz 32)).setRow w3.heap.size L23.toArray ∧
     subE [(23, .pointer (some ⟨w3.heap.size, 0, none⟩)), (24, .int .i64 sg), (4, x4), (5, x5), (6, x6), (9, x9), (10, .pointer (some ⟨b10, 0, none⟩)), (11, x11), (12, .int .i64 er), (13, .int .i64 sr), (14, .int .i64 sg), (15, .pointer (some ⟨b15, 0, none⟩)), (17, .pointer (some ⟨b17, 0, none⟩)), (18, .bool sm), (19, .pointer (some ⟨b19, 0, none⟩)), (20, .int .i64 er), (21, .bool sm), (22, .int .i64 sr)] env') ?_
     (Kn.of (l := [(4, x4), (5, x5), (6, x6), (9, x9), (10, .pointer (some ⟨b10, 0, none⟩)), (11, x11), (12, .int .i64 er), (13, .int .i64 sr), (14, .int .i64 sg), (15, .pointer (some ⟨b15, 0, none⟩)), (17, .pointer (some ⟨b17, 0, none⟩)), (18, .bool sm), (19, .pointer (some ⟨b19, 0, none⟩)), (20, .int .i64 er), (21, .bool sm), (22, .int .i64 sr)]) hs2.size (fun x hx => ?_)) ?_)
    ·refine RTri.region ?_
     refine w_loadA tbl (l := c10.toList) (fun j v hj => by rw [cell_of_cells h10, ← Array.getElem?_toList, Nat.zero_add]; exact hj) (by rw [Array.length_toList]; exact z10) (by kernel_rfl) ?_;refine RL.callW rfl rfl rfl (by decide) #[.agg c10.toList.toArray] (fun _ ha => x_calls (by kernel_rfl) rfl rfl ha) ?_
     refine (hseen C2 w2 #[.agg c10.toList.toArray] hs2.frag0 (.cons (.pu (by simpa [Value.cells] using p10)) (tmT_agg t) .nil)).mono fun e w3 ⟨y, C3, he, AA⟩ => ⟨y, he, ?_⟩
     obtain ⟨L23, rfl, pL⟩ := stepV_val AA.val
     refine w_move ?_;refine w_extract (i := 0) rfl ?_;refine w_extract (i := 1) rfl ?_
     refine w_alloc SS (Zr.ok (S := SS) (T := 32)) fun cz hcz => ?_
     refine w_storeV tbl (E := 32) (c := cz) (l := L23) (alloc_heap_new w3 _) hcz (VR.length_ty (C := ⟨C3.D, fun _ => none, fun _ => none⟩) (pl := none) tbl (VR.pu pL) TyV.ok compsT) (by rw [List.all_eq_true]; exact fun u hu => PR.one pL u hu) (of_decide_eq_true (by kernel_rfl)) ?_;refine w_assign ?_;refine RL.nil ?_;exact ⟨rfl, C3, w3, L23, cz, AA, pL, hcz, rfl, ⟨rfl, rfl, rfl, rfl, rfl, rfl, rfl, rfl, rfl, rfl, rfl, rfl, rfl, rfl, rfl, rfl, rfl, rfl, trivial⟩⟩
    ·simp only [List.mem_cons, List.not_mem_nil, or_false] at hx
     rcases hx with rfl | rfl | rfl | rfl | rfl | rfl | rfl | rfl | rfl | rfl | rfl | rfl | rfl | rfl | rfl | rfl <;> assumption
    rintro e a3 w4 env3 hk3 ⟨he, C3, w3, L23, cz, AA, pL, hcz, hw4, hsub3⟩
    subst he
    have g23 := AA.grew
    have hw4b : ∀ b : Nat, b < w3.heap.size → w4.heap[b]? = w3.heap[b]? := fun b hb => by
     rw [hw4, setRow_ne _ _ _ (by omega)];exact (Grew.alloc w3 _).block b hb
    have hw4n : w4.heap[w3.heap.size]? = some (.cells L23.toArray 32 (0, 0)) := by rw [hw4]; exact setRow_heap _ _ _ _ _ _ (alloc_heap_new w3 _)
    have hw4s : w4.heap.size = w3.heap.size + 1 := by rw [hw4, setRow_size]; exact alloc_size w3 _
    have hsz23 := g23.size
    have hsame24 : ∀ b : Nat, b < w2.heap.size → w4.heap[b]? = w2.heap[b]? := fun b hb => (hw4b b (by omega)).trans (g23.block b hb)
    have hcell24 : ∀ b o, b < w2.heap.size → w4.cell? ⟨b, o, none⟩ = w2.cell? ⟨b, o, none⟩ := fun b o hb => by simp only [World.cell?, hsame24 b hb]
    have ty34 : TyKeep w3 w4 := by rw [hw4]; exact ((Grew.alloc w3 _).ty).trans (setRow_ty _ _ _)
    have ty24 : TyKeep w2 w4 := g23.ty.trans ty34
    have K24 : Keep w1.heap.size (w3.heap.size + 1) w2 w4 := by
     rw [hw4];exact ((Keep.of_grew g23).trans (Keep.of_grew (Grew.alloc w3 _))).trans (Keep.setRow (alloc_heap_new w3 _) (by omega) (by omega))
    obtain ⟨C4, hC4⟩ : ∃ C4 : Cfg, C4 = ⟨C2.D, fun _ => none, fun _ => none⟩ := ⟨_, rfl⟩
    have d4 : C4.D = C2.D := by rw [hC4]
    have F4 : Frag Tryz.prog gA C4 w4 [] [] :=
     ⟨fun l ob hl => (by cases hl), fun l l' b R R' ob ob' hl => (by cases hl), fun l ob b R o hl => (by cases hl), fun b o hD => (by rw [d4] at hD; have := hs2.dLt b o hD; omega), fun b q k hb => (by rw [hC4] at hb; cases hb), hs2.gl.mono ⟨fun b o hD => ⟨by rw [d4]; exact hD, hcell24 b o (hs2.dLt b o hD)⟩, fun l hl => (by cases hl), fun b q k hb hq => False.elim hq, ty24⟩⟩
    have m24 : ∀ {p : Pu} {x : List Value}, PR Tryz.prog C2.D w2 p x → PR Tryz.prog C4.D w4 p x := fun h => by rw [d4]; exact PR.mono (fun b o hD => ⟨hD, hcell24 b o (hs2.dLt b o hD)⟩) ty24 h
    have Al := alike_raw w1.heap.size 3000 w2.heap.size en en er er (by have := hzk.2; dsimp only at this; omega) (by have := hzk.2; dsimp only at this; omega) F4 (m24 p19) (m24 p15) hx h0l hltl (softT_mono (Wore.same fun b _ hb => hsame24 b hb) 3000 lt hsoft) (by omega)
    have L19 := hsame24 b19 (heap_lt h19)
    have L15 := hsame24 b15 (heap_lt h15)
    have hb17 : b17 < w1.heap.size := heap_lt h17
    have e3 := hk3.less hsub3.get
    clear hsub3 hk3
    refine wpIn_seq (RTri.use (n := 152) (env := [(23, .pointer (some ⟨w3.heap.size, 0, none⟩)), (24, .int .i64 sg), (4, x4), (5, x5), (6, x6), (9, x9), (10, .pointer (some ⟨b10, 0, none⟩)), (11, x11), (12, .int .i64 er), (13, .int .i64 sr), (14, .int .i64 sg), (15, .pointer (some ⟨b15, 0, none⟩)), (17, .pointer (some ⟨b17, 0, none⟩)), (18, .bool sm), (19, .pointer (some ⟨b19, 0, none⟩)), (20, .int .i64 er), (21, .bool sm), (22, .int .i64 sr)])
     (fun e env' w' => e = .normal ∧ ∃ w5, Keep w1.heap.size w2.heap.size w4 w5 ∧ Grew w5 w' ∧ subE [(23, .pointer (some ⟨w3.heap.size, 0, none⟩)), (4, x4), (5, x5), (6, x6), (9, x9), (10, .pointer (some ⟨b10, 0, none⟩)), (11, x11)] env') ?_ e3 ?_)
    ·repeat refine RTri.seq ?_
     refine RTri.region ?_;refine w_loadA tbl (l := c19.toList) (fun j v hj => by rw [cell_of_cells (L19.trans h19), ← Array.getElem?_toList, Nat.zero_add]; exact hj) (by rw [Array.length_toList]; exact z19) (by kernel_rfl) ?_;refine w_loadA tbl (l := c15.toList) (fun j v hj => by rw [cell_of_cells (L15.trans h15), ← Array.getElem?_toList, Nat.zero_add]; exact hj) (by rw [Array.length_toList]; exact z15) (by kernel_rfl) ?_;refine w_move ?_;refine w_move ?_;refine RL.callW rfl rfl rfl (by decide) #[.agg c19.toList.toArray, .agg c15.toList.toArray, .int .i64 er, .int .i64 er] (fun _ ha => x_calls (by kernel_rfl) rfl rfl ha) ?_
     refine Al.mono fun e w5 ⟨he, K5, W5⟩ => ⟨.bool true, by rw [he, alikeB_refl], ?_⟩
     have hsame45 : ∀ b : Nat, b < w4.heap.size → ¬ (w1.heap.size ≤ b ∧ b < w2.heap.size) → w5.heap[b]? = w4.heap[b]? := K5.block
     have L23' : w5.heap[w3.heap.size]? = some (.cells L23.toArray 32 (0, 0)) := (hsame45 _ (by omega) (by omega)).trans hw4n
     have L17 : w5.heap[b17]? = some (.cells c17 E17 (0, 0)) := (hsame45 _ (by omega) (by omega)).trans ((hsame24 b17 (by omega)).trans h17')
     obtain ⟨C5, hC5⟩ : ∃ C5 : Cfg, C5 = ⟨fun b o => C1.D b o ∨ (w2.heap.size ≤ b ∧ C3.D b o), fun _ => none, fun _ => none⟩ := ⟨_, rfl⟩
     have d5 : C5.D = fun b o => C1.D b o ∨ (w2.heap.size ≤ b ∧ C3.D b o) := by rw [hC5]
     have hc1 : ∀ b o, C1.D b o → w5.cell? ⟨b, o, none⟩ = w1.cell? ⟨b, o, none⟩ := fun b o hD => by
      have hb := hs1.dLt b o hD
      have h1 := hs2.keep b o hD
      have h2 := hcell24 b o (by omega)
      have h3 : w5.cell? ⟨b, o, none⟩ = w4.cell? ⟨b, o, none⟩ := by simp only [World.cell?, hsame45 b (by omega) (by omega)]
      exact h3.trans (h2.trans h1)
     have hc3 : ∀ b o, w2.heap.size ≤ b → C3.D b o → w5.cell? ⟨b, o, none⟩ = w3.cell? ⟨b, o, none⟩ := fun b o hb hD => by
      have hb3 := AA.dLt b o hD
      simp only [World.cell?, hsame45 b (by omega) (by omega), hw4b b hb3]
     have ty15 : TyKeep w1 w5 := (hs2.framed.ty.trans ty24).trans K5.ty
     have ty35 : TyKeep w3 w5 := ty34.trans K5.ty
     have F5 : Frag Tryz.prog gA C5 w5 [] [] :=
      ⟨fun l ob hl => (by cases hl), fun l l' b R R' ob ob' hl => (by cases hl), fun l ob b R o hl => (by cases hl), fun b o hD => (by
       have h5 := K5.size
       rw [d5] at hD
       rcases hD with hD | ⟨_, hD⟩
       ·have := hs1.dLt b o hD; omega
       ·have := AA.dLt b o hD; omega), fun b q k hb => (by rw [hC5] at hb; cases hb), hs1.gl.mono ⟨fun b o hD => ⟨by rw [d5]; exact .inl hD, hc1 b o hD⟩, fun l hl => (by cases hl), fun b q k hb hq => False.elim hq, ty15⟩⟩
     have q23 : PR Tryz.prog C5.D w5 (tmc 0 sn) L23 := by
      refine PR.low (p := tmc w2.heap.size sn) ?_ (tmc_low (Nat.zero_le w2.heap.size) sn);refine PR.mono (fun b o hD => ⟨by rw [d5]; exact .inr hD, hc3 b o hD.1 hD.2⟩) ty35 (PR.col (m := w2.heap.size) (by omega) (col_tm _ sn) pL)
     have q17 : PR Tryz.prog C5.D w5 (tmc 0 sn) c17.toList := PR.mono (fun b o hD => ⟨by rw [d5]; exact .inl hD, hc1 b o hD⟩) ty15 p17
     refine w_not ?_;refine w_move ?_;refine w_move ?_;refine w_move ?_;refine w_bin tbl (u1 := .int .i64 sr) (u2 := .int .i64 sr) (u := .bool false) (by simp [binV, intBin]) rfl ?_;refine w_pick ?_;refine w_move ?_;refine w_move ?_;refine w_move ?_;refine w_bin tbl (u1 := .bool sm) (u2 := .bool sm) (u := .bool false) ((bin_neqB sm sm).trans (by simp)) rfl ?_;refine w_pick ?_;refine w_move ?_;refine w_move ?_;refine w_move ?_;refine w_bin tbl (u1 := .int .i64 sg) (u2 := .int .i64 sg) (u := .bool false) (by simp [binV, intBin]) rfl ?_;refine w_pick ?_;refine w_move ?_;refine w_loadA tbl (l := L23) (fun j v hj => by rw [cell_of_cells L23', Nat.zero_add]; simpa using hj) (VR.length_ty (C := ⟨C3.D, fun _ => none, fun _ => none⟩) (pl := none) tbl (VR.pu pL) TyV.ok compsT) (by kernel_rfl) ?_
     refine w_loadA tbl (l := c17.toList) (fun j v hj => by rw [cell_of_cells L17, ← Array.getElem?_toList, Nat.zero_add]; exact hj) (by rw [Array.length_toList]; exact z17) (by kernel_rfl) ?_;refine RL.callW rfl rfl rfl (by decide) #[.agg L23.toArray, .agg c17.toList.toArray] (fun _ ha => x_calls (by kernel_rfl) rfl rfl ha) ?_
     refine ((sameT_c (G := gA) _ sn sn (Nat.le_refl _) (by omega) (by omega)) C5 w5 #[.agg L23.toArray, .agg c17.toList.toArray] F5 (.cons (.pu (by simpa [Value.cells] using q23)) (tmT_agg sn) (.cons (.pu (by simpa [Value.cells] using q17)) (tmT_agg sn) .nil))).mono fun e w6 ⟨y, C6, he, A6⟩ => ⟨.bool true, by rw [he, A6.val.leaf_inv.1, sameT_refl], ?_⟩
     refine w_not ?_;refine w_pick ?_;refine RL.nil ?_;exact RTri.cond rfl (fun h => by cases h) (fun _ => RTri.skip ⟨rfl, w5, K5, A6.grew, ⟨rfl, rfl, rfl, rfl, rfl, rfl, rfl, trivial⟩⟩)
    rintro e a6 w6' env6 hk6 ⟨he, w5, K5, g56, hsub6⟩
    subst he
    have e6 := hk6.less hsub6.get
    clear hsub6 hk6
    have hz5 := K5.size
    have hz6 := g56.size
    have hsame36 : ∀ b : Nat, w2.heap.size ≤ b → b < w3.heap.size → w6'.heap[b]? = w3.heap[b]? := fun b h1 h2 => (g56.block b (by omega)).trans ((K5.block b (by omega) (by omega)).trans (hw4b b h2))
    have L23'' : w6'.heap[w3.heap.size]? = some (.cells L23.toArray 32 (0, 0)) := (g56.block _ (by omega)).trans ((K5.block _ (by omega) (by omega)).trans hw4n)
    have hsoft23 : softT w2.heap.size w3.heap.size w6' 800 L23 := softT_mono (Wore.same hsame36) 800 L23 (softT_of (by omega) (Nat.le_refl _) 800 sn L23 hsz (by omega) pL)
    refine wpIn_seq (RTri.use (n := 152) (env := [(23, .pointer (some ⟨w3.heap.size, 0, none⟩)), (4, x4), (5, x5), (6, x6), (9, x9), (10, .pointer (some ⟨b10, 0, none⟩)), (11, x11)]) (fun e env' w' => e = .normal ∧ Keep w2.heap.size w3.heap.size w6' w' ∧ subE [(4, x4), (5, x5), (6, x6), (9, x9), (10, .pointer (some ⟨b10, 0, none⟩)), (11, x11)] env') ?_ e6 ?_)
    ·refine RTri.region ?_
     refine w_loadA tbl (l := L23) (fun j v hj => by rw [cell_of_cells L23'', Nat.zero_add]; simpa using hj) (VR.length_ty (C := ⟨C3.D, fun _ => none, fun _ => none⟩) (pl := none) tbl (VR.pu pL) TyV.ok compsT) (by kernel_rfl) ?_;refine RL.callW rfl rfl rfl (by decide) #[.agg L23.toArray] (fun _ ha => x_calls (by kernel_rfl) rfl rfl ha) ?_
     refine (spoil_c 800 w2.heap.size w3.heap.size w6' L23 hsoft23 (by omega)).mono fun e w7 ⟨⟨v, he⟩, K7, W7⟩ => ⟨v, he, ?_⟩
     refine RL.nil ?_;exact ⟨rfl, K7, ⟨rfl, rfl, rfl, rfl, rfl, rfl, trivial⟩⟩
    rintro e a7 w7 env7 hk7 ⟨he, K7, v4, v5, v6, v9, v10, v11, _⟩
    subst he
    have K27 : Keep w1.heap.size (w3.heap.size + 1) w2 w7 := ((K24.trans (K5.wide (Nat.le_refl _) (by omega))).trans (Keep.of_grew g56)).trans (K7.wide hm12 (by omega))
    subst hM1
    have hsp := hs1.spoilt (hi := w3.heap.size + 1) rfl hs2 (env0 := [(4, .ptr 4 [] 26), (5, .ptr 5 [] 32), (6, .ptr 6 [] 32), (9, .ptr 9 [] 26), (10, .ptr 10 [] 32), (11, .ptr 11 [] 32)]) rfl
     (le_of (e' := [(4, .ptr 4 [] 26), (5, .ptr 5 [] 32), (6, .ptr 6 [] 32), (9, .ptr 9 [] 26), (10, .ptr 10 [] 32), (11, .ptr 11 [] 32)]) (h' := []) zE zH).env K27 hk7.size (a' := a7) (fun i v hv => by
      have hmem := get_mem hv
      simp only [List.mem_cons, List.not_mem_nil, or_false, Prod.mk.injEq] at hmem
      rcases hmem with ⟨rfl, _⟩ | ⟨rfl, _⟩ | ⟨rfl, _⟩ | ⟨rfl, _⟩ | ⟨rfl, _⟩ | ⟨rfl, _⟩
      ·exact (hk7.env _ _ v4).trans s4.symm
      ·exact (hk7.env _ _ v5).trans s5.symm
      ·exact (hk7.env _ _ v6).trans s6.symm
      ·exact (hk7.env _ _ v9).trans s9.symm
      ·exact (hk7.env _ _ v10).trans s10.symm
      ·exact (hk7.env _ _ v11).trans s11.symm) hk7.defers
    refine Tri.at hsp ?_;refine tQ ?_;refine Y33 ?_;refine s_val (v_callD (fun _ => sameT_c _ t t (Nat.le_refl _) (by omega) (by omega))) ?_;refine Y63 ?_;refine xL ?_;refine s_gg zG (v_callD (fun _ => sameT_c _ u u (Nat.le_refl _) (by omega) (by omega))) ?_;refine yN ?_;refine Y63 ?_;refine Y5 ?_;refine xP ?_;refine s_gg zG (v_callD (fun _ => sameW_c ts ts hl hl hts hts)) ?_;refine yN ?_;refine yM ?_;refine s_gg zG (v_callD (fun _ => awake_c)) ?_;refine yN ?_;refine Y10 ?_;exact Tri.ret ⟨.inr rfl, ret1 rfl resV_tmp (bv_imp (by simp [sameT_refl, sameW_refl]))⟩
end Go.Proofs.YtkcgkignhpepkaaGreatDoor

/- Terms, patterns and worlds out of what arguments read as. -/
namespace Go.Proofs.YtkcgkignhpepkaaGreatDoor
open Go Hs
variable {H : Type}
theorem bulk_one (d : DataW H) : 1 ≤ Rows.uptoBulk d := by
 cases d with
 | lit l => cases l <;> simp [Rows.uptoBulk]
 | _ => simp [Rows.uptoBulk]
theorem bulk_mem {d : DataW H} {l : List (DataW H)} (h : d ∈ l) : Rows.uptoBulk d ≤ Rows.uptoBulkAll l := by
 induction l with
 | nil => cases h
 | cons x r ih =>
  simp only [Rows.uptoBulkAll]
  cases List.mem_cons.1 h with
  | inl e => subst e; omega
  | inr e => have := ih e; omega
theorem bulk_sum {α : Type} (sz : α → Nat) (tot : List α → Nat) (h0 : tot [] = 0) (h1 : ∀ a l, tot (a :: l) = sz a + tot l) : ∀ {ds : List (DataW H)} {l : List α}, l.length = ds.length → (∀ (i : Nat) (d : DataW H) (a : α), ds[i]? = some d → l[i]? = some a → sz a ≤ Rows.uptoBulk d) → tot l ≤ Rows.uptoBulkAll ds
 | [], l, hl, _ => by
  have : l = [] := List.length_eq_zero_iff.1 hl
  subst this; rw [h0]; omega
 | d :: ds, [], hl, _ => by simp at hl
 | d :: ds, a :: l, hl, h => by
  have h2 := h 0 d a rfl rfl
  have h3 := bulk_sum sz tot h0 h1 (ds := ds) (l := l) (by simpa using hl) fun i d' a' hi hj => h (i + 1) d' a' (by simpa using hi) (by simpa using hj)
  rw [h1]
  simp only [Rows.uptoBulkAll]
  omega
theorem c_int : Tryz.prog.underlying 3 = some (.int .i64) := by kernel_rfl
theorem c_u8 : Tryz.prog.underlying 5 = some (.int .u8) := by kernel_rfl
theorem c_sum : comps Tryz.prog 28 = some (List.replicate 32 (1, 5)) := by kernel_rfl
theorem c_pat : comps Tryz.prog 104 = some [(1, 3), (1, 3), (32, 28), (1, 102)] := by kernel_rfl
theorem c_tm : comps Tryz.prog 32 = some [(1, 3), (1, 3), (32, 28), (1, 29), (1, 30)] := by kernel_rfl
theorem c_cs : comps Tryz.prog 106 = some [(Tryz.prog.cellsOf 104, 104), (Tryz.prog.cellsOf 32, 32)] := by kernel_rfl
theorem u_pats : Tryz.prog.underlying 102 = some (.slice 104) := by kernel_rfl
theorem u_tms : Tryz.prog.underlying 29 = some (.slice 32) := by kernel_rfl
theorem u_css : Tryz.prog.underlying 30 = some (.slice 106) := by kernel_rfl
theorem ht_sum {d : DataW H} {p : Pu} (h : HT Tryz.prog 28 d p) : ∃ r, p = refP r := by
 obtain ⟨ds, ps, rfl, rfl, hA⟩ := h.agg_inv c_sum
 clear h
 have h := hA
 clear hA
 rw [List.map_replicate] at h
 obtain ⟨l, rfl, _, _⟩ := HTs.all (α := Int) (enc := fun n => .leaf (.int .u8 n)) (φ := fun _ _ => True) h fun d _ p hp => by
  obtain ⟨n, _, rfl, _⟩ := hp.int_inv c_u8
  exact ⟨n, rfl, trivial⟩
 exact ⟨l, rfl⟩
theorem sl_bulk {ds sp : List (DataW H)} {d : DataW H} (h : d = .nil ∧ ds = [] ∨ d = .slice ds sp) : Rows.uptoBulkAll ds + 1 ≤ Rows.uptoBulk d := by
 rcases h with ⟨rfl, rfl⟩ | rfl
 ·simp [Rows.uptoBulk, Rows.uptoBulkAll]
 ·simp only [Rows.uptoBulk]; omega
theorem ht_pat : ∀ (N : Nat) (d : DataW H), Rows.uptoBulk d ≤ N → ∀ p, HT Tryz.prog 104 d p → ∃ q, p = patc 0 q ∧ psize q ≤ Rows.uptoBulk d
 | 0, d, hN, _, _ => by have := bulk_one d; omega
 | N + 1, d, hN, p, h => by
  obtain ⟨ds, ps, rfl, rfl, hA⟩ := h.agg_inv c_pat
  clear h
  have h := hA
  clear hA
  obtain ⟨d1, ds, p1, ps, rfl, rfl, h1, h⟩ := h.cons_inv
  obtain ⟨d2, ds, p2, ps, rfl, rfl, h2, h⟩ := h.cons_inv
  obtain ⟨d3, ds, p3, ps, rfl, rfl, h3, h⟩ := h.cons_inv
  obtain ⟨d4, ds, p4, ps, rfl, rfl, h4, h⟩ := h.cons_inv
  obtain ⟨rfl, rfl⟩ := h.nil_inv
  obtain ⟨k, rfl, rfl, _⟩ := h1.int_inv c_int
  obtain ⟨n, rfl, rfl, _⟩ := h2.int_inv c_int
  obtain ⟨r, rfl⟩ := ht_sum h3
  obtain ⟨es, sp, qs, he, rfl, hq⟩ := h4.sl_inv u_pats
  have hb := sl_bulk he
  simp only [Rows.uptoBulk, Rows.uptoBulkAll] at hN ⊢
  obtain ⟨l, rfl, hl, hφ⟩ := HTs.all (enc := patc 0) (φ := fun d q => psize q ≤ Rows.uptoBulk d) hq fun d hm p hp => ht_pat N d (by have := bulk_mem hm; omega) p hp
  have hs := bulk_sum psize psizeL rfl (fun _ _ => rfl) hl hφ
  exact ⟨.mk k n r l, by simp only [patc, pats_eq], by simp only [psize]; omega⟩
theorem rgK_of {l : List Tm} (h : ∀ t ∈ l, rgT t) : rgK l := by
 induction l with
 | nil => trivial
 | cons a l ih => exact ⟨h a (by simp), ih fun t ht => h t (by simp [ht])⟩
theorem rgC_of {l : List Cs} (h : ∀ t ∈ l, rgS t) : rgC l := by
 induction l with
 | nil => trivial
 | cons a l ih => exact ⟨h a (by simp), ih fun t ht => h t (by simp [ht])⟩
theorem mem_pair {α : Type} {ds : List (DataW H)} {l : List α} (hl : l.length = ds.length) {a : α} (h : a ∈ l) : ∃ (i : Nat) (d : DataW H), ds[i]? = some d ∧ l[i]? = some a := by
 obtain ⟨i, hi, rfl⟩ := List.getElem_of_mem h
 exact ⟨i, ds[i]'(by omega), List.getElem?_eq_getElem _, List.getElem?_eq_getElem _⟩
mutual
theorem ht_tm : ∀ (N : Nat) (d : DataW H), Rows.uptoBulk d ≤ N → ∀ p, HT Tryz.prog 32 d p → ∃ t, p = tmc 0 t ∧ tsize t ≤ Rows.uptoBulk d ∧ rgT t
 | 0, d, hN, _, _ => by have := bulk_one d; omega
 | N + 1, d, hN, p, h => by
  obtain ⟨ds, ps, rfl, rfl, hA⟩ := h.agg_inv c_tm
  clear h
  have h := hA
  clear hA
  obtain ⟨d1, ds, p1, ps, rfl, rfl, h1, h⟩ := h.cons_inv
  obtain ⟨d2, ds, p2, ps, rfl, rfl, h2, h⟩ := h.cons_inv
  obtain ⟨d3, ds, p3, ps, rfl, rfl, h3, h⟩ := h.cons_inv
  obtain ⟨d4, ds, p4, ps, rfl, rfl, h4, h⟩ := h.cons_inv
  obtain ⟨d5, ds, p5, ps, rfl, rfl, h5, h⟩ := h.cons_inv
  obtain ⟨rfl, rfl⟩ := h.nil_inv
  obtain ⟨k, rfl, rfl, _⟩ := h1.int_inv c_int
  obtain ⟨n, rfl, rfl, hn⟩ := h2.int_inv c_int
  obtain ⟨r, rfl⟩ := ht_sum h3
  obtain ⟨es, sp, qs, he, rfl, hq⟩ := h4.sl_inv u_tms
  obtain ⟨fs, sp', us, hf, rfl, hu⟩ := h5.sl_inv u_css
  have hb := sl_bulk he
  have hb' := sl_bulk hf
  simp only [Rows.uptoBulk, Rows.uptoBulkAll] at hN ⊢
  obtain ⟨l, rfl, hl, hφ⟩ := HTs.all (enc := tmc 0) (φ := fun d q => tsize q ≤ Rows.uptoBulk d ∧ rgT q) hq fun d hm p hp => ht_tm N d (by have := bulk_mem hm; omega) p hp
  obtain ⟨m, rfl, hm, hψ⟩ := HTs.all (enc := csec 0) (φ := fun d q => csize q ≤ Rows.uptoBulk d ∧ rgS q) hu fun d hm p hp => ht_cs N d (by have := bulk_mem hm; omega) p hp
  have hs := bulk_sum tsize tsizeL rfl (fun _ _ => rfl) hl fun i d a hi hj => (hφ i d a hi hj).1
  have hs' := bulk_sum csize csizeL rfl (fun _ _ => rfl) hm fun i d a hi hj => (hψ i d a hi hj).1
  refine ⟨.mk k n r l m, by simp only [tmc, tms_eq, css_eq], by simp only [tsize]; omega, ?_, rgK_of fun t ht => ?_, rgC_of fun t ht => ?_⟩
  ·have hn' : -9223372036854775808 ≤ n ∧ n ≤ 9223372036854775807 := by simpa [Lit.wf, IntKind.min, IntKind.max, IntKind.signed, IntKind.bits] using hn
   omega
  ·obtain ⟨i, d, g1, g2⟩ := mem_pair hl ht
   exact (hφ i d t g1 g2).2
  ·obtain ⟨i, d, g1, g2⟩ := mem_pair hm ht
   exact (hψ i d t g1 g2).2
theorem ht_cs : ∀ (N : Nat) (d : DataW H), Rows.uptoBulk d ≤ N → ∀ p, HT Tryz.prog 106 d p → ∃ t, p = csec 0 t ∧ csize t ≤ Rows.uptoBulk d ∧ rgS t
 | 0, d, hN, _, _ => by have := bulk_one d; omega
 | N + 1, d, hN, p, h => by
  have hc := c_cs
  obtain ⟨ds, ps, rfl, rfl, hA⟩ := h.agg_inv hc
  clear h
  have h := hA
  clear hA
  obtain ⟨d1, ds, p1, ps, rfl, rfl, h1, h⟩ := h.cons_inv
  obtain ⟨d2, ds, p2, ps, rfl, rfl, h2, h⟩ := h.cons_inv
  obtain ⟨rfl, rfl⟩ := h.nil_inv
  simp only [Rows.uptoBulk, Rows.uptoBulkAll] at hN ⊢
  obtain ⟨q, rfl, hq⟩ := ht_pat _ d1 (Nat.le_refl _) p1 h1
  obtain ⟨t, rfl, ht, hr⟩ := ht_tm N d2 (by omega) p2 h2
  exact ⟨.mk q t, rfl, by simp only [csize]; omega, hr⟩
end
theorem c_kt : comps Tryz.prog 116 = some [(Tryz.prog.cellsOf 28, 28), (Tryz.prog.cellsOf 32, 32)] := by kernel_rfl
theorem c_wd : comps Tryz.prog 26 = some [(1, 22), (1, 23), (1, 24)] := by kernel_rfl
theorem u_kts : Tryz.prog.underlying 24 = some (.slice 116) := by kernel_rfl
theorem ht_kt {d : DataW H} {p : Pu} (h : HT Tryz.prog 116 d p) : ∃ x : KT, p = ktP x ∧ tsize x.2 ≤ Rows.uptoBulk d ∧ rgT x.2 := by
 have hc := c_kt
 obtain ⟨ds, ps, rfl, rfl, hA⟩ := h.agg_inv hc
 clear h
 have h := hA
 clear hA
 obtain ⟨d1, ds, p1, ps, rfl, rfl, h1, h⟩ := h.cons_inv
 obtain ⟨d2, ds, p2, ps, rfl, rfl, h2, h⟩ := h.cons_inv
 obtain ⟨rfl, rfl⟩ := h.nil_inv
 obtain ⟨r, rfl⟩ := ht_sum h1
 obtain ⟨t, rfl, ht, hr⟩ := ht_tm _ d2 (Nat.le_refl _) p2 h2
 exact ⟨(r, t), rfl, by simp only [Rows.uptoBulk, Rows.uptoBulkAll]; omega, hr⟩
theorem bulk_len (l : List (DataW H)) : l.length ≤ Rows.uptoBulkAll l := by
 induction l with
 | nil => simp [Rows.uptoBulkAll]
 | cons x r ih => have := bulk_one x; simp only [Rows.uptoBulkAll, List.length_cons]; omega
theorem ht_wd {d : DataW H} {p : Pu} (h : HT Tryz.prog 26 d p) : ∃ (a b : Pu) (ts : List KT), p = wdP a b ts ∧ ts.length ≤ Rows.uptoBulk d ∧ ∀ x ∈ ts, tsize x.2 ≤ Rows.uptoBulk d ∧ rgT x.2 := by
 obtain ⟨ds, ps, rfl, rfl, hA⟩ := h.agg_inv c_wd
 clear h
 have h := hA
 clear hA
 obtain ⟨d1, ds, p1, ps, rfl, rfl, h1, h⟩ := h.cons_inv
 obtain ⟨d2, ds, p2, ps, rfl, rfl, h2, h⟩ := h.cons_inv
 obtain ⟨d3, ds, p3, ps, rfl, rfl, h3, h⟩ := h.cons_inv
 obtain ⟨rfl, rfl⟩ := h.nil_inv
 obtain ⟨es, sp, qs, he, rfl, hq⟩ := h3.sl_inv u_kts
 have hb := sl_bulk he
 simp only [Rows.uptoBulk, Rows.uptoBulkAll]
 obtain ⟨l, rfl, hl, hφ⟩ := HTs.all (enc := ktP) (φ := fun d (x : KT) => tsize x.2 ≤ Rows.uptoBulk d ∧ rgT x.2) hq fun d hm p hp => ht_kt hp
 have hle := bulk_len es
 refine ⟨p1, p2, l, rfl, by omega, fun x hx => ?_⟩
 obtain ⟨i, d, g1, g2⟩ := mem_pair hl hx
 have := hφ i d x g1 g2
 have hm := bulk_mem (List.mem_of_getElem? g1)
 exact ⟨by omega, this.2⟩
end Go.Proofs.YtkcgkignhpepkaaGreatDoor

/- From a row's condition to a contract: what is alike for all laws. -/
namespace Go.Proofs.YtkcgkignhpepkaaGreatDoor
open Go Hs
open Go.ChangeShapes Go.WideShapes Go.ChangeAt Go.RowKit
def TabsL (l : List (Nat × Int)) (W : World) : Prop := ∀ g n, (g, n) ∈ l → ∀ j u, ((sumR n).map fun z => Value.int .u8 z)[j]? = some u → W.cell? ⟨g, j, none⟩ = some u
theorem tab_one {W : World} {name : String} {n : Int} {g : Nat} {l : List (String × DataW Unit)} (h : laidMetH Tryz.prog l W)
  (hl : l.filter (fun x => x.1 == name) = [(name, Lib.tabData .u8 (sumR n))]) (hg : Tryz.prog.globalNamed name = some g) (hty : (Tryz.prog.globals[g]?).map (·.type) = some 28) :
  ∀ j u, ((sumR n).map fun z => Value.int .u8 z)[j]? = some u → W.cell? ⟨g, j, none⟩ = some u := by
 have h1 := h.filter (fun x => x.1 == name)
 rw [hl] at h1
 have h2 : laidMet Tryz.prog [(name, Lib.tabData .u8 (sumR n))] W := by
  have := (laidMetH_iff.1 h1).1
  simpa [Lib.tabData, DataW.handleName?] using this
 have h3 := Lib.tabIs_of_head (t := 28) (e := 5) (n := 32) hg hty (by kernel_rfl) (by kernel_rfl) (by kernel_rfl) (by kernel_rfl) h2
 intro j u hj
 have := World.var?_cell hg h3 j
 rw [this, List.getElem?_toArray];exact hj
theorem tyU8 {z : Int} : tyP Tryz.prog 5 (.leaf (.int .u8 z)) = true := (by kernel_rfl : (comps Tryz.prog 5).isNone = true)
theorem tySum {r : List Int} : tyV Tryz.prog 28 (.pu (refP r)) = true := (by kernel_rfl : ((comps Tryz.prog 28).isSome && Tryz.prog.underlyingId 28 == Tryz.prog.underlyingId 28) = true)
theorem lenSum {n : Int} : ((sumR n).map fun z => Value.int .u8 z).length = Tryz.prog.cellsOf 28 := (by simp [sumR] : ((sumR n).map fun z => Value.int .u8 z).length = 32).trans (by kernel_rfl)
def bytL (l : List Int) : List Pu := l.map fun x => .leaf (.int .u8 x)
theorem prs_ints {D : Nat → Nat → Prop} {w : World} (zs : List Int) : PRs Tryz.prog D w (List.replicate zs.length (1, 5)) (bytL zs) (zs.map fun z => Value.int .u8 z) := by
 induction zs with
 | nil => exact .nil
 | cons z zs ih => exact PRs.cons (x := [.int .u8 z]) (.leaf rfl) rfl tyU8 ih
def cfg0 (W : World) : Cfg := { D := fun b _ => b < W.heap.size, ρ := fun _ => none, own := fun _ => none }
def gOf (l : List (Nat × Int)) : List (Nat × TypeId × Pu) := l.map fun x => (x.1, 28, refP (sumR x.2))
theorem gOf_get {l : List (Nat × Int)} {g : Nat} {T : TypeId} {p : Pu} (h : get (gOf l) g = some (T, p)) : ∃ n, (g, n) ∈ l ∧ T = 28 ∧ p = refP (sumR n) := by
 induction l with
 | nil => cases h
 | cons x l ih =>
  obtain ⟨i, n⟩ := x
  simp only [gOf, List.map_cons, get_cons] at h
  split at h
  ·rename_i e; subst e; cases h; exact ⟨n, by simp, rfl, rfl⟩
  ·obtain ⟨m, h1, h2⟩ := ih h
   exact ⟨m, by simp [h1], h2⟩
theorem gl_of {l : List (Nat × Int)} {W : World} (h : TabsL l W) : GL Tryz.prog (gOf l) (cfg0 W) W := by
 intro g T p hg
 obtain ⟨n, hm, rfl, rfl⟩ := gOf_get hg
 have hT := h g n hm
 refine VR.pp (x := (sumR n).map fun z => Value.int .u8 z) (.pu (PR.agg (cs := List.replicate 32 (1, 5)) (by kernel_rfl) (prs_ints (sumR n)))) tySum lenSum fun j u hj => ⟨by rw [Nat.zero_add]; exact hT j u hj, ?_⟩
 ·have := hT j u hj
  show g < W.heap.size
  refine Nat.lt_of_not_le fun hb => ?_
  simp only [World.cell?, Array.getElem?_eq_none hb] at this
  cases this
theorem frag_of {l : List (Nat × Int)} {W : World} (h : TabsL l W) : Frag Tryz.prog (gOf l) (cfg0 W) W [] [] where
 heap := fun l ob h => by cases h
 inj := fun l l' b R R' ob ob' h => by cases h
 dObj := fun l ob b R o h => by cases h
 dLt := fun b o h => h
 own := fun b q k h => by cases h
 gl := gl_of h
theorem call_of {l : List (Nat × Int)} {W : World} (hT : TabsL l W) {f : FuncId} {args : List PV} {xs : Array Value} (hc : FCall Tryz.prog (gOf l) f args (bv true)) (hx : VFs Tryz.prog (cfg0 W) W args xs.toList) :
  Calls Tryz.prog f xs W fun e W' => e = .returned (.bool true) ∧ Below W.heap.size W W' := by
 refine (hc (cfg0 W) W _ (frag_of hT) hx).mono fun e W' ⟨y, C', he, A⟩ => ?_
 subst he
 have hM : ∀ b, ¬ Mset (cfg0 W) [] b := fun b hb => by
  rcases hb with ⟨l, ob, R, h1, _⟩ | ⟨l, p, k, ob, h1, _⟩ <;> cases h1
 refine ⟨?_, ⟨A.os, A.tape, A.output, A.size, fun b hb => A.block b hb (hM b)⟩⟩
 cases A.val with
 | one h hs =>
  have h1 := h.pu_inv
  generalize hc : y.cells.toList = c at h1
  cases h1
  cases y <;> simp_all [Value.cells, valAgg, PV.isAgg]
theorem and_t {a b : Bool} (h1 : a = true) (h2 : b = true) : (a && b) = true := by rw [h1, h2]; rfl
theorem laidOutD : laidOutB Tryz.prog = true := by kernel_rfl
theorem undB : Tryz.prog.underlying 4 = some .bool := by kernel_rfl
section
variable {H : Type} {enc : TypeId × Value → H} {W : World}
theorem arg_ht {al : List TypeId} (hal : dataB Tryz.prog al = true) {t : TypeId} (ht : t ∈ al) {v : Value} {d : DataW H} {ps : List MemPlace} (h : DataW.Trod enc Tryz.prog W 0 (fun _ => true) true t v d ps) :
  ∃ p, HT Tryz.prog t d p ∧ PR Tryz.prog (cfg0 W).D W p v.cells.toList := by
 obtain ⟨fuel, hf⟩ := h
 obtain ⟨p, h1, h2, _, _⟩ := trod_ht tbl hal fuel t _ _ ht hf
 exact ⟨p, h1, h2⟩
end
end Go.Proofs.YtkcgkignhpepkaaGreatDoor

/- StepRuns: the card of its second form. -/
namespace Go.Proofs.YtkcgkignhpepkaaGreatDoor.stepRuns
open Go Hs
open Go.ChangeShapes Go.WideShapes Go.ChangeAt Go.RowKit
def tabs : List (Nat × Int) := [(0, 11), (4, 21)]
theorem tabs_of {W : World} (h : laidMetH Tryz.prog Rows.stepRunsUptoRow.laid W) : TabsL tabs W := by
 intro g n hm
 simp only [tabs, List.mem_cons, Prod.mk.injEq, List.not_mem_nil, or_false] at hm
 rcases hm with ⟨rfl, rfl⟩ | ⟨rfl, rfl⟩
 ·exact tab_one (name := "hoarstone/hoarstonekit.State") h (by rfl) (by kernel_rfl) (by kernel_rfl)
 ·exact tab_one (name := "hoarstone/hoarstonekit.Inc") h (by rfl) (by kernel_rfl) (by kernel_rfl)
def al : List TypeId := [26, 22, 23, 24, 130, 136, 116, 28, 5, 128, 134, 9, 3, 126, 53, 58, 56, 4, 54, 132, 167, 32, 29, 30, 106, 104, 102]
theorem al_ok : dataB Tryz.prog al = true := by kernel_rfl
theorem par : Tryz.f8.params = #[26, 32, 32, 3] := by kernel_rfl
theorem four {Q : TypeId → Value → Prop} {a b c d : TypeId} {x y z u : Value} (h : ∀ (j : Nat) t v, (#[a, b, c, d] : Array TypeId)[j]? = some t → (#[x, y, z, u] : Array Value)[j]? = some v → Q t v) : Q a x ∧ Q b y ∧ Q c z ∧ Q d u :=
 ⟨h 0 a x rfl rfl, h 1 b y rfl rfl, h 2 c z rfl rfl, h 3 d u rfl rfl⟩
theorem tm_agg (t : Tm) : true = (PV.pu (tmc 0 t)).isAgg := by cases t; rfl
set_option maxRecDepth 100000 in
theorem contract (H : Type) (enc : TypeId × Value → H) (W : World) (base : Nat) (args : Array Value) (ds gs : List (DataW H)) (before : List MemPlace)
  (hval : ∀ (j : Nat) t v, Tryz.f8.params[j]? = some t → args[j]? = some v → Value.okWide Tryz.prog W .any base t v)
  (hW : DataW.Whole enc Tryz.prog Tryz.f8.params.toList Rows.stepRunsSpec.vars false W args.toList ds gs before) (hL : laidMetH Tryz.prog Rows.stepRunsUptoRow.laid W) (hk : Rows.uptoSmall H (ds ++ gs) = true) :
  Calls Tryz.prog 8 args W fun e W' => ∃ v, e = .returned v ∧ Rows.stepRunsSpec.post enc Tryz.prog Tryz.f8 false true false false W args v W' := by
 have hT := tabs_of hL
 have hW' := hW
 obtain ⟨p, q, hA0, hV, rfl, hfz, hnd⟩ := hW
 have hA : DataW.TrodAll enc Tryz.prog W 0 (fun _ => true) true Tryz.f8.params.toList args.toList ds p := hA0
 rw [par] at hA hval
 obtain ⟨v0, vs0, d0, ds0, p0, q0, hargs, rfl, rfl, h0, r0⟩ := trodAll_cons hA
 obtain ⟨v1, vs1, d1, ds1, p1, q1, e1, rfl, rfl, h1, r1⟩ := trodAll_cons r0
 obtain ⟨v2, vs2, d2, ds2, p2, q2, e2, rfl, rfl, h2, r2⟩ := trodAll_cons r1
 obtain ⟨v3, vs3, d3, ds3, p3, q3, e3, rfl, rfl, h3, r3⟩ := trodAll_cons r2
 obtain ⟨rfl, rfl, rfl⟩ := trodAll_nil r3
 subst e3 e2 e1
 obtain rfl : args = #[v0, v1, v2, v3] := by cases args; simp_all
 obtain ⟨rfl, rfl⟩ := trodVars_none hV
 obtain ⟨hv0, hv1, hv2, hv3⟩ := four hval
 clear hval
 obtain ⟨most, rfl, rfl, rfl, wm⟩ := open_int c_int hv3 h3
 simp only [List.append_nil] at hW' hA0 hk
 have hbulk : Rows.uptoBulkAll [d0, d1, d2, .lit (.int .i64 most)] ≤ 1048576 := of_decide_eq_true hk
 simp only [Rows.uptoBulkAll] at hbulk
 have hlt : ∀ x ∈ p0 ++ (p1 ++ p2), x.block < W.heap.size := fun x hx => by simpa using hW'.lt x (by simpa using hx)
 obtain ⟨u0, t0, x0⟩ := arg_ht al_ok (by simp [al]) h0
 obtain ⟨u1, t1, x1⟩ := arg_ht al_ok (by simp [al]) h1
 obtain ⟨u2, t2, x2⟩ := arg_ht al_ok (by simp [al]) h2
 obtain ⟨a, b, ts, rfl, hl, hts⟩ := ht_wd t0
 obtain ⟨t, rfl, ht, hrg⟩ := ht_tm _ d1 (Nat.le_refl _) _ t1
 obtain ⟨u, rfl, hu, hrgu⟩ := ht_tm _ d2 (Nat.le_refl _) _ t2
 have hagg2 : valAgg v2 = true := agg_of (by kernel_rfl) hv2
 have hagg0 : valAgg v0 = true := agg_of (by kernel_rfl) hv0
 have hagg1 : valAgg v1 = true := agg_of (by kernel_rfl) hv1
 have hc := stepRuns_c a b ts t u most (by omega) (fun x hx => by have := (hts x hx).1; omega) (by omega) (by omega) hrg hrgu (fun x hx => (hts x hx).2)
 refine (call_of (l := tabs) hT hc (xs := #[v0, v1, v2, .int .i64 most]) (.cons (.pu x0) hagg0 (.cons (.pu x1) (hagg1.trans (tm_agg t)) (.cons (.pu x2) (hagg2.trans (tm_agg u)) (.cons (.pu (.leaf rfl)) rfl .nil))))).mono fun e W' ⟨he, hb⟩ => ?_
 subst he
 have s0 := Below.trod laidOutD (by kernel_rfl) (of_decide_eq_true (by kernel_rfl)) h0 hb fun x hx => hlt x (by simp [hx])
 have s1 := Below.trod laidOutD (by kernel_rfl) (of_decide_eq_true (by kernel_rfl)) h1 hb fun x hx => hlt x (by simp [hx])
 have s2 := Below.trod laidOutD (by kernel_rfl) (of_decide_eq_true (by kernel_rfl)) h2 hb fun x hx => hlt x (by simp [hx])
 refine ⟨_, rfl, _, _, _, [], p0 ++ (p1 ++ (p2 ++ ([] ++ []))), [], hW', ?_, ?_, rfl, ?_, fun h => by cases h⟩
 ·exact trodAll_mk1 (shut_bool undB _)
 ·exact ⟨p0, p1 ++ (p2 ++ []), s0, trodAll_mk3 s1 s2 (shut_int c_int wm), rfl⟩
 ·simpa using hb.frame _
theorem own : ownKnob Tryz.prog.godebug = none := by kernel_rfl
noncomputable def lay (h : Array Obj) (g : Nat) (n : Int) : Array Obj := h.modify g fun
 | .cells _ t frozen => .cells ((sumR n).map fun z => Value.int .u8 z).toArray t frozen
 | o => o
noncomputable def zeros : Array Value := #[.agg #[.slice none 0 0, .slice none 0 0, .slice none 0 0], .agg (((Value.int .i64 0 :: Value.int .i64 0 :: List.replicate 32 (Value.int .u8 0)) ++ [Value.slice none 0 0, Value.slice none 0 0]).toArray), .agg (((Value.int .i64 0 :: Value.int .i64 0 :: List.replicate 32 (Value.int .u8 0)) ++ [Value.slice none 0 0, Value.slice none 0 0]).toArray), .int .i64 0]
noncomputable def laidWorld (os : Os) : World :=
 { World.holding Tryz.prog os ⟨#[], #[], []⟩ with heap := tabs.foldl (fun h (x : Nat × Int) => lay h x.1 x.2) (World.holding Tryz.prog os ⟨#[], #[], []⟩).heap }
theorem laid_met (os : Os) : laidMet Tryz.prog Rows.stepRunsUptoRow.laid ((laidWorld os).forCall (fun _ _ => 0) ⟨#[], zeros, []⟩).memory :=
 laidMet_of_run' 8 (by kernel_rfl) (by kernel_rfl)
noncomputable def zeroSum {H : Type} : DataW H := .agg (List.replicate 32 (.lit (.int .u8 0)))
noncomputable def zeroDs {H : Type} : List (DataW H) := [.agg [.nil, .nil, .nil], .agg [.lit (.int .i64 0), .lit (.int .i64 0), zeroSum, .nil, .nil], .agg [.lit (.int .i64 0), .lit (.int .i64 0), zeroSum, .nil, .nil], .lit (.int .i64 0)]
theorem reads (os : Os) {H : Type} (enc : TypeId × Value → H) : ∃ places, DataW.whole enc Tryz.prog ((laidWorld os).forCall (fun _ _ => 0) ⟨#[], zeros, []⟩).memory Tryz.f8.params.toList Rows.stepRunsSpec.vars false zeros.toList 8 = some (zeroDs, [], places) :=
 ⟨[], by kernel_rfl⟩
set_option maxRecDepth 100000 in
theorem lifted (os : Os) (started : os.Started) (H : Type) (enc : TypeId × Value → H) (F : Stop.Interp) :
  ReturnsInHanded {} Tryz.checked os 8 .any ((Rows.OpenSpec.upto Rows.stepRunsSpec).preRow enc Tryz.prog Tryz.f8 Rows.stepRunsUptoRow.domain false Rows.stepRunsUptoRow.laid) (((Rows.OpenSpec.upto Rows.stepRunsSpec).at F).post enc Tryz.prog Tryz.f8 false true false false) := by
 obtain ⟨places, hx⟩ := reads os enc
 refine returnsInHanded_of_row (C := Tryz.checked) (s := Rows.OpenSpec.upto Rows.stepRunsSpec) own started (by kernel_rfl) Tryz.func8
  (witness_row_at (enc := enc) (C := Tryz.checked) false (laidWorld os) zeros rfl (by kernel_rfl) (by kernel_rfl) (by kernel_rfl)
   (OpenSpec.preRow_of_cond 8 hx (by kernel_rfl) (fun k hk => by cases hk; kernel_rfl) (by kernel_rfl) (laid_met os))) ?_
 intro W base args ds gs before hval hW _ hcond _ hL _ _
 exact contract H enc W base args ds gs before hval hW hL (hcond _ rfl)
set_option maxHeartbeats 100000000 in
theorem facts : joinedFacts Tryz.pinned.checked.prog 8 Tryz.f8 (Rows.OpenSpec.upto Rows.stepRunsSpec).bare Rows.stepRunsUptoRow = true := by
 unfold joinedFacts
 repeat' (with_reducible refine and_t ?_ ?_)
 all_goals (as_aux_lemma => kernel_rfl)
theorem said : Rows.StepRunsUptoSaid :=
 OpenClaim.holds_of_cond 8 Tryz.f8 rfl rfl rfl rfl rfl rfl rfl ⟨rfl, rfl, rfl, rfl, rfl⟩ rfl rfl rfl rfl rfl (by kernel_rfl) Tryz.func8 facts
  (of_decide_eq_true (by kernel_rfl)) (by unfold Func.isWrapper; first | (rw [if_pos (by decide +kernel)]; kernel_rfl) | (rw [if_neg (by decide +kernel)]; exact ⟨rfl, rfl⟩))
  (fun os started H enc _ F => by rw [OpenClaim.pre_eq_preRow]; exact lifted os started H enc F)
theorem plain (f : FuncId) (fn : Func) (hf : Tryz.pinned.checked.prog.funcNamed "hoarstone/hoarstonelaw16.StepRuns" = some f) (hfn : Tryz.pinned.checked.prog.funcs[f]? = some fn) :
  false = Tryz.pinned.checked.prog.looks [] ∧ ∀ (j : Nat) t, fn.params[j]? = some t → Tryz.pinned.checked.prog.wantsStandIn t = false := by
 obtain rfl : f = 8 := Option.some.inj ((show Tryz.prog.funcNamed "hoarstone/hoarstonelaw16.StepRuns" = some 8 by kernel_rfl).symm.trans hf) |>.symm
 obtain rfl : fn = Tryz.f8 := (Option.some.inj (Tryz.func8.symm.trans hfn)).symm
 refine ⟨by kernel_rfl, fun j t ht => ?_⟩
 rw [par] at ht
 have hm := Array.mem_of_getElem? ht
 have q0 : Tryz.prog.wantsStandIn 26 = false := by kernel_rfl
 have q1 : Tryz.prog.wantsStandIn 32 = false := by kernel_rfl
 have q3 : Tryz.prog.wantsStandIn 3 = false := by kernel_rfl
 simp only [List.mem_toArray, List.mem_cons, List.not_mem_nil, or_false] at hm
 rcases hm with rfl | rfl | rfl | rfl
 ·exact q0
 ·exact q1
 ·exact q1
 ·exact q3
theorem card : Rows.StepRunsUptoCardSaid :=
 Claim7.holds_tied_plain_at .later [] _ _ _ _ said (fun _ h => by cases h) (by kernel_rfl) (fun _ h => by cases h) stepRunsUpto_row_tie rfl ⟨rfl, rfl⟩ (by kernel_rfl) rfl plain (by kernel_rfl)
end Go.Proofs.YtkcgkignhpepkaaGreatDoor.stepRuns

