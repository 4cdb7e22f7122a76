/- Part 6 of the proof: lemmas on walks and the walks of the functions, in their order. -/
import Derived.Test.YtkcgkignhpepkaaGreatDoorE5
set_option linter.unusedSimpArgs false
set_option linter.unusedVariables false
/- The reference: the errors of terms, and of worlds. -/
namespace Go.Proofs.YtkcgkignhpepkaaGreatDoor
open Go Hs
variable {G : List (Nat × TypeId × Pu)}
theorem rkids_off (k : Int) (n : Nat) : offM (n : Int) (rkidsM k).1 (rkidsM k).2 = !kidsM k n := by
 unfold rkidsM kidsM offM
 split
 ·rw [Bool.eq_iff_iff]; simp; omega
 ·split
  ·rw [Bool.eq_iff_iff]; simp; omega
  ·split
   ·rw [Bool.eq_iff_iff]; simp; omega
   ·split
    ·rw [Bool.eq_iff_iff]; simp
    ·rw [Bool.eq_iff_iff]; simp; omega
theorem aerrK_eq (m d b k : Int) : ∀ (ks : List Tm) (i : Nat), aerrK m d b k i ks = firstE (fun x : Nat × Tm => aerr m d (b + moreM k x.1) x.2) (ks.mapIdx fun j t => (i + j, t))
 | [], i => rfl
 | t :: ts, i => by
  have ih := aerrK_eq m d b k ts (i + 1)
  simp only [aerrK, List.mapIdx_cons, firstE, Nat.add_zero, orE]
  rw [ih, show (fun (j : Nat) (t : Tm) => (i + (j + 1), t)) = fun j t => (i + 1 + j, t) by funext j t; rw [show i + (j + 1) = i + 1 + j by omega]]
theorem aerrC_eq (m d b : Int) : ∀ (cs : List Cs), aerrC m d b cs = firstE (aerrCs m d b) cs
 | [] => rfl
 | c :: cs => by simp only [aerrC, firstE, aerrC_eq m d b cs, orE]
theorem notOff {k : Int} (h : offM k 1 12 = false) : 1 ≤ k ∧ k ≤ 12 := by unfold offM at h; simp at h; omega
set_option maxHeartbeats 4000000 in
theorem rnode_c (members depth : Int) : ∀ (N : Nat) (t : Tm), tsize t ≤ N → N < 2^40 → ∀ bound : Int, 0 ≤ bound → bound + 2 * tsize t ≤ 2^42 →
  FCall Tryz.prog G 148 [.pu (tmc 0 t), iv .i64 depth, iv .i64 members, iv .i64 bound] (iv .i64 (aerr members depth bound t)) := by
 intro N
 induction N with
 | zero => intro t h; have := tsize_pos t; omega
 | succ N ih =>
 intro t hp hN bound hb0 hb1
 obtain ⟨k, n, r, ks, cs⟩ := t
 simp only [tsize] at hp hb1
 have hlen := length_tsizeL ks
 have hlenc := length_csizeL cs
 refine FCall.of_tri tbl 210 Tryz.func148 rfl rfl rfl fun w0 M ρ0 D0 => ?_
 refine Tri.fact (i := 0) rfl (fun D w x h => tm_wf h) (fun hr => ?_)
 simp only [wfT] at hr
 have hterm : ∀ e, termErr members depth bound k n r ks.length cs.length = e → e ≠ 0 → aerr members depth bound (.mk k n r ks cs) = e := fun e h h0 => by
  simp only [aerr, orE, h, if_neg h0]
 refine yR ?_;refine s_box SS 4 ?_;refine yB ?_;refine e_seqN [4] ?_;refine yR ?_;refine yF ?_;refine yL ?_;refine s_val (v_callD (fun _ => roff_c k 1 12)) ?_;refine e_seq ?_;refine tQ ?_;refine Tri.cond rfl (fun h0 => ?_) (fun h0 => ?_)
 ·skip
  refine yR ?_;refine yB ?_;refine e_seq ?_;refine tQ ?_;exact Tri.ret ⟨.inr rfl, ret1 rfl resV_tmp (iv_imp (by rw [hterm 3 (by simp [termErr, h0]) (by simp)]))⟩
 ·skip
  refine Tri.skip ?_;refine yR ?_;refine yF ?_;refine yL ?_;refine s_val (v_callD (fun _ => rhasNum_c k)) ?_;refine yQ ?_;refine yM ?_;refine xF ?_;refine xL ?_;refine xI ?_;refine yN ?_;refine yM ?_;refine xF ?_;refine xL ?_;refine s_gg zG (v_callD (fun _ => rhasRef_c k)) ?_;refine xQ ?_;refine xM ?_;refine xF ?_;refine xL ?_
  first | refine s_gg zG (v_lit0 SS) ?_ | refine s_gg zG (v_litP SS) ?_ | refine s_gg zG (v_litA SS) ?_
  refine s_gg zG (v_bin SS (h := bin_neS (hr.1.trans rfl))) ?_;refine xN ?_;refine yO ?_;refine yM ?_;refine xF ?_;refine xL ?_;refine xI ?_;refine xM ?_;refine xF ?_;refine xL ?_;refine xC ?_;refine xI ?_;refine xN ?_;refine yO ?_;refine e_seq ?_;refine tQ ?_;refine Tri.cond rfl (fun h1 => ?_) (fun h1 => ?_)
  ·skip
   have hcl : clashM (hasNumM k) (hasRefM k) (hasCasesM k) n r cs.length = true := by rw [css_length] at h1; rw [← rclash]; exact h1
   refine yR ?_;refine yB ?_;refine e_seq ?_;refine tQ ?_;exact Tri.ret ⟨.inr rfl, ret1 rfl resV_tmp (iv_imp (by rw [hterm 7 (by simp [termErr, h0, hcl]) (by simp)]))⟩
  ·skip
   have hcl : clashM (hasNumM k) (hasRefM k) (hasCasesM k) n r cs.length = false := by rw [css_length] at h1; rw [← rclash]; exact h1
   refine Tri.skip ?_;refine yR ?_;refine yF ?_;refine yL ?_;refine s_val (v_callD (fun _ => rkids_c k)) ?_;refine yM ?_;refine yX ?_;refine yX ?_;refine yA ?_;refine yA ?_;refine e_seq ?_;refine yR ?_;refine yF ?_;refine yK ?_;refine yC ?_;refine yM ?_;refine yM ?_;refine s_val (v_callD (fun _ => roff_c _ (rkidsM k).1 (rkidsM k).2)) ?_;refine yM ?_;refine xF ?_;refine xL ?_;refine xC ?_;refine xI ?_;refine yO ?_;refine e_seq ?_;refine tQ ?_;refine Tri.cond rfl (fun h2 => ?_) (fun h2 => ?_)
   ·skip
    have hmany : (!kidsM k ks.length || decide ((cs.length : Int) > 8)) = true := by rw [tms_length, css_length, rkids_off] at h2; exact h2
    refine yR ?_;refine yB ?_;refine e_seq ?_;refine tQ ?_;exact Tri.ret ⟨.inr rfl, ret1 rfl resV_tmp (iv_imp (by rw [hterm 2 (by simp only [termErr, h0, hcl, hmany]; simp) (by simp)]))⟩
   ·skip
    have hmany : (!kidsM k ks.length || decide ((cs.length : Int) > 8)) = false := by rw [tms_length, css_length, rkids_off] at h2; exact h2
    refine Tri.skip ?_;refine yR ?_;refine yF ?_;refine yL ?_;refine yI ?_;refine yM ?_;refine xF ?_;refine xL ?_;refine s_gg zG (v_callD (fun _ => roff_c n 0 1073741824)) ?_;refine yN ?_;refine yM ?_;refine xF ?_;refine xL ?_;refine xI ?_;refine xM ?_;refine xF ?_;refine xL ?_;refine s_gg zG (v_callD (fun _ => roff_c n 1 5)) ?_;refine xN ?_;refine yO ?_;refine yM ?_;refine xF ?_;refine xL ?_;refine xI ?_;refine xM ?_;refine xF ?_;refine xL ?_;refine xI ?_;refine xO ?_;refine xM ?_;refine xF ?_;refine xL ?_;refine s_gg zG (v_callD (fun _ => roff_c n 0 7)) ?_;refine xN ?_;refine yO ?_
    refine e_seq ?_;refine tQ ?_;refine Tri.cond rfl (fun h3 => ?_) (fun h3 => ?_)
    ·skip
     have he3 : termErr members depth bound k n r ks.length cs.length = 3 := by
      simp only [termErr, h0, hcl, hmany]
      simp only [Bool.or_eq_true, Bool.and_eq_true, beq_iff_eq] at h3
      rcases h3 with (⟨rfl, h⟩ | ⟨rfl, h⟩) | ⟨rfl | rfl, h⟩ <;> simp [h]
     refine yR ?_;refine yB ?_;refine e_seq ?_;refine tQ ?_;exact Tri.ret ⟨.inr rfl, ret1 rfl resV_tmp (iv_imp (by rw [hterm 3 he3 (by simp)]))⟩
    ·skip
     refine Tri.skip ?_;refine yR ?_;refine yF ?_;refine yL ?_;refine yI ?_;refine yM ?_;refine xF ?_;refine xL ?_;refine xI ?_;refine xM ?_;refine xF ?_;refine xL ?_;refine xM ?_;refine xI ?_;refine xM ?_;refine xF ?_;refine xL ?_;refine xM ?_;refine xI ?_;refine xM ?_;refine xI ?_;refine xN ?_;refine xO ?_;refine yN ?_;refine yM ?_;refine xF ?_;refine xL ?_;refine xI ?_;refine xM ?_;refine xF ?_;refine xL ?_;refine xI ?_;refine xM ?_;refine xF ?_;refine xL ?_;refine xM ?_;refine xI ?_;refine xO ?_;refine xN ?_;refine yO ?_;refine e_seq ?_;refine tQ ?_
     refine Tri.cond rfl (fun h4 => ?_) (fun h4 => ?_)
     ·skip
      have he1 : termErr members depth bound k n r ks.length cs.length = 1 := by
       simp only [termErr, h0, hcl, hmany]
       simp only [Bool.or_eq_true, Bool.and_eq_true, beq_iff_eq, decide_eq_true_eq] at h4
       rcases h4 with ⟨rfl, h⟩ | ⟨rfl, h⟩
       ·have hk : knownM depth n bound = false := by unfold knownM; simp; omega
        simp [hk]
       ·simp [h]
      refine yR ?_;refine yB ?_;refine e_seq ?_;refine tQ ?_;exact Tri.ret ⟨.inr rfl, ret1 rfl resV_tmp (iv_imp (by rw [hterm 1 he1 (by simp)]))⟩
     ·skip
      have he0 : termErr members depth bound k n r ks.length cs.length = 0 := by
       simp only [termErr, h0, hcl, hmany]
       simp only [Bool.or_eq_false_iff, Bool.and_eq_false_iff, beq_eq_false_iff_ne, ne_eq, decide_eq_false_iff_not] at h3 h4
       have hk : k = 1 → knownM depth n bound = true := fun e => by unfold knownM; simp; omega
       by_cases k1 : k = 1
       ·subst k1; simp [hk rfl]
       ·by_cases k2 : k = 2
        ·subst k2; simp at h3; simp [h3]
        ·by_cases k7 : k = 7
         ·subst k7; simp at h4; simp; omega
         ·by_cases k8 : k = 8
          ·subst k8; simp at h3; simp [h3]
          ·by_cases k10 : k = 10
           ·subst k10; simp at h3; simp [h3]
           ·by_cases k11 : k = 11
            ·subst k11; simp at h3; simp [h3]
            ·simp [k1, k2, k7, k8, k10, k11]
      have hrest : aerr members depth bound (.mk k n r ks cs) = orE (firstE (fun c => perr (csP c)) cs) (orE (aerrK members depth bound k 0 ks) (aerrC members depth bound cs)) := by simp only [aerr, he0]; rfl
      refine Tri.skip ?_;refine yR ?_;refine yB ?_;refine e_seq ?_;refine tQ ?_;refine Tri.block (Tri.loopW (σ := {i : Nat // firstE (fun c => perr (csP c)) (cs.take i) = 0}) (fun i => ⟨[(4, .ptr 4 [] 32), (1, iv .i64 depth), (2, iv .i64 members), (3, iv .i64 bound), (11, iv .i64 i.1)], [(4, .var 32 (.pu (tmc 0 (.mk k n r ks cs))))]⟩) (fun i => cs.length - i.1) ⟨0, rfl⟩ ?_ ?_ (fun i => ?_))
      ·exact zW
      ·exact zW
      refine yR ?_;refine yM ?_;refine yF ?_;refine yK ?_;refine yC ?_;refine yI ?_;refine e_seq ?_;refine tQ ?_;refine Tri.cond rfl (fun h5 => ?_) (fun h5 => ?_)
      ·skip
       have hi : i.1 < cs.length := by rw [css_length] at h5; simpa using h5
       have hcz := csize_mem (List.getElem_mem hi)
       have hpz : psize (csP cs[i.1]) ≤ csize cs[i.1] := by generalize cs[i.1] = c; cases c; simp only [csP, csize]; omega
       have hget := css_get (lo := 0) hi
       rw [css_pat] at hget
       refine Tri.skip ?_;refine tQ ?_;refine Tri.block ?_;refine yR ?_;refine yF ?_;refine yK ?_;refine yM ?_;refine s_val (v_index SS (h0 := by omega) (hp := hget)) ?_;refine yF ?_;refine yL ?_;refine s_val (v_callD (fun _ => rperr_c _ (csP cs[i.1]) (Nat.le_refl _) (by omega))) ?_;refine yA ?_;refine e_seq ?_;refine yR ?_;refine yM ?_;refine yI ?_;refine e_seq ?_;refine tQ ?_;refine Tri.cond rfl (fun h6 => ?_) (fun h6 => ?_)
       ·skip
        have h6' : perr (csP cs[i.1]) ≠ 0 := by simpa using h6
        have hf : firstE (fun c => perr (csP c)) (cs.take (i.1 + 1)) = perr (csP cs[i.1]) := by rw [firstE_take _ hi, if_pos i.2]
        have hf2 := firstE_pre (fun c => perr (csP c)) (l := cs) (i := i.1 + 1) (by rw [hf]; exact h6')
        refine yR ?_;refine yM ?_;refine yA ?_;refine e_seq ?_;refine tQ ?_;exact Tri.ret ⟨.inr rfl, ret1 rfl resV_tmp (iv_imp (by simp only [hrest, orE, hf2, hf, if_neg h6']))⟩
       ·skip
        have h6' : perr (csP cs[i.1]) = 0 := by simpa using h6
        have hnext : firstE (fun c => perr (csP c)) (cs.take (i.1 + 1)) = 0 := by rw [firstE_take _ hi, if_pos i.2, h6']
        refine Tri.skip ?_;refine yR ?_;refine yM ?_;refine yI ?_;refine yA ?_;refine e_seq ?_
        refine ⟨⟨i.1 + 1, hnext⟩, by show cs.length - (i.1 + 1) < cs.length - i.1; omega, le_of ?_ ?_⟩
        ·exact zE
        ·exact zH
      ·skip
       have hz1 : firstE (fun c => perr (csP c)) cs = 0 := by have := i.2; rwa [List.take_of_length_le (by rw [css_length] at h5; simp at h5; omega)] at this
       clear h0 h1 h2 h3 h4 h5 hcl hmany;refine Tri.exit ?_;refine yR ?_;refine yB ?_;refine e_seq ?_;refine tQ ?_;refine Tri.block (Tri.loopW (σ := {i : Nat // firstE (fun x : Nat × Tm => aerr members depth (bound + moreM k x.1) x.2) ((ks.mapIdx fun j t => (0 + j, t)).take i) = 0}) (fun i => ⟨[(4, .ptr 4 [] 32), (1, iv .i64 depth), (2, iv .i64 members), (3, iv .i64 bound), (13, iv .i64 i.1)], [(4, .var 32 (.pu (tmc 0 (.mk k n r ks cs))))]⟩) (fun i => ks.length - i.1) ⟨0, rfl⟩ ?_ ?_ (fun i => ?_))
       ·exact zW
       ·exact zW
       refine yR ?_;refine yM ?_;refine yF ?_;refine yK ?_;refine yC ?_;refine yI ?_;refine e_seq ?_;refine tQ ?_;refine Tri.cond rfl (fun h7 => ?_) (fun h7 => ?_)
       ·skip
        have hi : i.1 < ks.length := by rw [tms_length] at h7; simpa using h7
        have hmb := more_b k i.1
        have hsz := tsize_mem (List.getElem_mem hi)
        have hil : i.1 < (ks.mapIdx fun j t => (0 + j, t)).length := by simpa using hi
        have hel : (ks.mapIdx fun j t => (0 + j, t))[i.1] = (i.1, ks[i.1]) := by simp
        refine Tri.skip ?_;refine tQ ?_;refine Tri.block ?_;refine yR ?_;refine yF ?_;refine yK ?_;refine yM ?_;refine s_val (v_index SS (h0 := by omega) (hp := tms_get hi)) ?_;refine yL ?_;refine yM ?_;refine yM ?_;refine yM ?_;refine yF ?_;refine yL ?_;refine yM ?_;refine s_val (v_callD (fun _ => rmore_c k i.1)) ?_;refine s_val (v_int SS) ?_;rw [wrap64 (n := bound + moreM k i.1) (by omega) (by omega)];refine s_val (v_callD (fun _ => ih ks[i.1] (by omega) (by omega) (bound + moreM k i.1) (by omega) (by omega))) ?_;refine yA ?_;refine e_draw ?_;refine yR ?_;refine yM ?_;refine yI ?_;refine e_seq ?_
        refine tQ ?_;refine Tri.cond rfl (fun h8 => ?_) (fun h8 => ?_)
        ·skip
         have h8' : aerr members depth (bound + moreM k i.1) ks[i.1] ≠ 0 := by simpa using h8
         have hf : firstE (fun x : Nat × Tm => aerr members depth (bound + moreM k x.1) x.2) ((ks.mapIdx fun j t => (0 + j, t)).take (i.1 + 1)) = aerr members depth (bound + moreM k i.1) ks[i.1] := by rw [firstE_take _ hil, if_pos i.2, hel]
         have hf2 := firstE_pre (fun x : Nat × Tm => aerr members depth (bound + moreM k x.1) x.2) (l := ks.mapIdx fun j t => (0 + j, t)) (i := i.1 + 1) (by rw [hf]; exact h8')
         refine yR ?_;refine yM ?_;refine yA ?_;refine e_seq ?_;refine tQ ?_;exact Tri.ret ⟨.inr rfl, ret1 rfl resV_tmp (iv_imp (by simp only [hrest, orE, hz1, aerrK_eq, hf2, hf, if_neg h8', if_true]))⟩
        ·skip
         have h8' : aerr members depth (bound + moreM k i.1) ks[i.1] = 0 := by simpa using h8
         have hnext : firstE (fun x : Nat × Tm => aerr members depth (bound + moreM k x.1) x.2) ((ks.mapIdx fun j t => (0 + j, t)).take (i.1 + 1)) = 0 := by rw [firstE_take _ hil, if_pos i.2, hel, h8']
         refine Tri.skip ?_;refine yR ?_;refine yM ?_;refine yI ?_;refine yA ?_;refine e_seq ?_
         refine ⟨⟨i.1 + 1, hnext⟩, by show ks.length - (i.1 + 1) < ks.length - i.1; omega, le_of ?_ ?_⟩
         ·exact zE
         ·exact zH
       ·skip
        have hz2 : aerrK members depth bound k 0 ks = 0 := by
         have := i.2
         rw [aerrK_eq]
         rwa [List.take_of_length_le (by rw [tms_length] at h7; simp at h7; simpa using h7)] at this
        refine Tri.exit ?_;refine yR ?_;refine yB ?_;refine e_seq ?_;refine tQ ?_;refine Tri.block (Tri.loopW (σ := {i : Nat // firstE (aerrCs members depth bound) (cs.take i) = 0}) (fun i => ⟨[(4, .ptr 4 [] 32), (1, iv .i64 depth), (2, iv .i64 members), (3, iv .i64 bound), (15, iv .i64 i.1)], [(4, .var 32 (.pu (tmc 0 (.mk k n r ks cs))))]⟩) (fun i => cs.length - i.1) ⟨0, rfl⟩ ?_ ?_ (fun i => ?_))
        ·exact zW
        ·exact zW
        refine yR ?_;refine yM ?_;refine yF ?_;refine yK ?_;refine yC ?_;refine yI ?_;refine e_seq ?_;refine tQ ?_;refine Tri.cond rfl (fun h9 => ?_) (fun h9 => ?_)
        ·skip
         have hi : i.1 < cs.length := by rw [css_length] at h9; simpa using h9
         have hcz := csize_mem (List.getElem_mem hi)
         have hget := css_get (lo := 0) hi
         have hft := firstE_take (aerrCs members depth bound) hi
         rw [if_pos i.2] at hft
         have hfp := fun h => firstE_pre (aerrCs members depth bound) (l := cs) (i := i.1 + 1) h
         generalize cs[i.1] = ci at hcz hget hft
         obtain ⟨q, b⟩ := ci
         simp only [csize] at hcz
         have hbb := binds_bound q
         have htp := tsize_pos b
         simp only [aerrCs] at hft
         refine Tri.skip ?_;refine tQ ?_;refine Tri.block ?_;refine yR ?_;refine yF ?_;refine yK ?_;refine yM ?_;refine s_val (v_index SS (h0 := by omega) (hp := hget)) ?_;refine yF ?_;refine yL ?_;refine yM ?_;refine yM ?_;refine yM ?_;refine yF ?_;refine yK ?_;refine yM ?_;refine s_val (v_index SS (h0 := by omega) (hp := hget)) ?_;refine yF ?_;refine yL ?_;refine s_val (v_callD (fun _ => rbound_c _ q (Nat.le_refl _) (by omega))) ?_;refine s_val (v_int SS) ?_;rw [wrap64 (n := bound + bindsM q) (by omega) (by omega)]
         refine s_val (v_callD (fun _ => ih b (by omega) (by omega) (bound + bindsM q) (by omega) (by omega))) ?_;refine yA ?_;refine e_draw ?_;refine yR ?_;refine yM ?_;refine yI ?_;refine e_seq ?_;refine tQ ?_;refine Tri.cond rfl (fun h10 => ?_) (fun h10 => ?_)
         ·skip
          have h10' : aerr members depth (bound + bindsM q) b ≠ 0 := by simpa using h10
          have hf2 := hfp (by rw [hft]; exact h10')
          refine yR ?_;refine yM ?_;refine yA ?_;refine e_seq ?_;refine tQ ?_;exact Tri.ret ⟨.inr rfl, ret1 rfl resV_tmp (iv_imp (by simp only [hrest, orE, hz1, hz2, aerrC_eq, hf2, hft, if_true]))⟩
         ·skip
          have h10' : aerr members depth (bound + bindsM q) b = 0 := by simpa using h10
          have hnext : firstE (aerrCs members depth bound) (cs.take (i.1 + 1)) = 0 := by rw [hft, h10']
          refine Tri.skip ?_;refine yR ?_;refine yM ?_;refine yI ?_;refine yA ?_;refine e_seq ?_
          refine ⟨⟨i.1 + 1, hnext⟩, by show cs.length - (i.1 + 1) < cs.length - i.1; omega, le_of ?_ ?_⟩
          ·exact zE
          ·exact zH
        ·skip
         have hz3 : firstE (aerrCs members depth bound) cs = 0 := by have := i.2; rwa [List.take_of_length_le (by rw [css_length] at h9; simp at h9; omega)] at this
         refine Tri.exit ?_;refine yR ?_;refine yB ?_;refine e_seq ?_;refine tQ ?_;exact Tri.ret ⟨.inr rfl, ret1 rfl resV_tmp (iv_imp (by simp only [hrest, orE, hz1, hz2, aerrC_eq, hz3, if_true]))⟩
theorem rcheck_c (t : Tm) (hN : tsize t < 2^40) (depth members : Int) : FCall Tryz.prog G 87 [.pu (tmc 0 t), iv .i64 depth, iv .i64 members] (iv .i64 (checkM t depth members)) := by
 refine FCall.of_tri tbl 13 Tryz.func87 rfl rfl rfl fun w0 M ρ0 D0 => ?_
 refine yR ?_;refine s_box SS 3 ?_;refine yB ?_;refine e_seqN [3] ?_;refine yR ?_;refine yL ?_;refine s_val (v_callD (fun _ => rlong_c t hN)) ?_;refine e_seq ?_;refine tQ ?_;refine Tri.cond rfl (fun h0 => ?_) (fun h0 => ?_)
 ·skip
  refine yR ?_;refine yB ?_;refine e_seq ?_;refine tQ ?_;exact Tri.ret ⟨.inr rfl, ret1 rfl resV_tmp (iv_imp (by simp [checkM, h0]))⟩
 ·skip
  refine Tri.skip ?_;refine yR ?_;refine yL ?_;refine yM ?_;refine yM ?_;refine s_val (v_callD (fun _ => rnode_c members depth _ t (Nat.le_refl _) hN 0 (by omega) (by omega))) ?_;refine yA ?_;refine e_seq ?_;refine tQ ?_;exact Tri.ret ⟨.inr rfl, ret1 rfl resV_tmp (iv_imp (by simp [checkM, h0]))⟩
end Go.Proofs.YtkcgkignhpepkaaGreatDoor

/- The reference: the error of a world and a term. -/
namespace Go.Proofs.YtkcgkignhpepkaaGreatDoor
open Go Hs
variable {G : List (Nat × TypeId × Pu)}
/-- The number of a digest among known terms. -/
def fndM (s : List Int) (ts : List KT) : Int := match ts.findIdx? (fun x => x.1 == s) with
 | some i => (i : Int)
 | none => -1
theorem fnd_mem {s : List Int} {ts : List KT} : 0 ≤ fndM s ts ↔ s ∈ ts.map (·.1) := by
 unfold fndM
 split
 ·rename_i i h
  obtain ⟨h1, h2, _⟩ := List.findIdx?_eq_some_iff_getElem.1 h
  simp only [beq_iff_eq] at h2
  exact ⟨fun _ => List.mem_map.2 ⟨_, List.getElem_mem h1, h2⟩, fun _ => by omega⟩
 ·rename_i h
  rw [List.findIdx?_eq_none_iff] at h
  refine ⟨fun h => by omega, fun hm => ?_⟩
  obtain ⟨x, hx, rfl⟩ := List.mem_map.1 hm
  have := h x hx
  simp at this
theorem rfind_c (ts : List KT) (s : List Int) (hl : ts.length < 2^40) : FCall Tryz.prog G 90 [.pu (.sl 0 116 (ts.map ktP)), .pu (refP s)] (iv .i64 (fndM s ts)) := by
 refine FCall.of_tri tbl 20 Tryz.func90 rfl rfl rfl fun w0 M ρ0 D0 => ?_
 refine Tri.fact (i := 0) rfl (fun D w x h => (PR_sl h).elim fun _ h => h.elim fun _ h => kts_wf h) (fun hr => ?_);refine Tri.fact (i := 1) rfl (fun D w x h => ref_len h) (fun hs => ?_);refine yR ?_;refine s_box SS 3 ?_;refine yB ?_;refine e_seqN [3] ?_;refine yR ?_;refine yB ?_;refine e_seq ?_;refine tQ ?_
 refine Tri.block (Tri.loopW (σ := {i : Nat // ∀ j (hj : j < ts.length), j < i → (ts[j].1 == s) = false}) (fun i => ⟨[(3, .ptr 3 [] 28), (0, .pu (.sl 0 116 (ts.map ktP))), (5, iv .i64 i.1)], [(3, .var 28 (.pu (refP s)))]⟩) (fun i => ts.length - i.1) ⟨0, by intro j hj h; omega⟩ ?_ ?_ (fun i => ?_))
 ·exact zW
 ·exact zW
 refine yR ?_;refine yM ?_;refine yM ?_;refine yC ?_;refine yI ?_;refine e_seq ?_;refine tQ ?_;refine Tri.cond rfl (fun h0 => ?_) (fun h0 => ?_)
 ·skip
  have hi : i.1 < ts.length := by simpa using h0
  refine Tri.skip ?_;refine tQ ?_;refine Tri.block ?_;refine yR ?_;refine yM ?_;refine yM ?_;refine s_val (v_index SS (h0 := by omega) (hp := kt_get hi)) ?_;refine yF ?_;refine yL ?_;refine yL ?_;refine s_val (v_bin SS (h := bin_eqS ((hr _ (List.getElem_mem hi)).trans hs.symm))) ?_;refine e_draw ?_;refine tQ ?_;refine Tri.cond rfl (fun h1 => ?_) (fun h1 => ?_)
  ·skip
   have hf : fndM s ts = i.1 := by
    unfold fndM
    rw [List.findIdx?_eq_some_iff_getElem.2 ⟨hi, by simpa using h1, fun j hj => by simp only [i.2 j (by omega) hj]; simp⟩]
   refine yR ?_;refine yM ?_;refine yA ?_;refine e_seq ?_;refine tQ ?_;exact Tri.ret ⟨.inr rfl, ret1 rfl resV_tmp (iv_imp hf.symm)⟩
  ·skip
   have hnext : ∀ j (hj : j < ts.length), j < i.1 + 1 → (ts[j].1 == s) = false := fun j hj h => by
    rcases Nat.lt_or_ge j i.1 with h' | h'
    ·exact i.2 j hj h'
    ·obtain rfl : j = i.1 := by omega
     exact h1
   refine Tri.skip ?_;refine yR ?_;refine yM ?_;refine yI ?_;refine yA ?_;refine e_seq ?_
   refine ⟨⟨i.1 + 1, hnext⟩, by show ts.length - (i.1 + 1) < ts.length - i.1; omega, le_of ?_ ?_⟩
   ·exact zE
   ·exact zH
 ·skip
  have hf : fndM s ts = -1 := by
   unfold fndM
   rw [List.findIdx?_eq_none_iff.2 fun x hx => ?_]
   obtain ⟨j, hj, rfl⟩ := List.getElem_of_mem hx
   exact i.2 j hj (by simp at h0; omega)
  refine Tri.exit ?_;refine yR ?_;refine yB ?_;refine e_seq ?_;refine tQ ?_;exact Tri.ret ⟨.inr rfl, ret1 rfl resV_tmp (iv_imp hf.symm)⟩
def termsM (ts : List KT) (most : Int) : Int := if decide ((ts.length : Int) > most) then 2 else orE (firstE (fun x => checkM x.2 0 0) ts) (if dupM ts then 5 else 0)
theorem rterms_c (ts : List KT) (most : Int) (hl : ts.length < 2^40) (hts : ∀ x ∈ ts, tsize x.2 < 2^40) : FCall Tryz.prog G 86 [.pu (.sl 0 116 (ts.map ktP)), iv .i64 most] (iv .i64 (termsM ts most)) := by
 refine FCall.of_tri tbl 43 Tryz.func86 rfl rfl rfl fun w0 M ρ0 D0 => ?_
 refine yR ?_;refine yB ?_;refine e_seq ?_;refine yR ?_;refine yM ?_;refine yC ?_;refine yM ?_;refine yI ?_;refine e_seq ?_;refine tQ ?_;refine Tri.cond rfl (fun h0 => ?_) (fun h0 => ?_)
 ·skip
  refine yR ?_;refine yB ?_;refine e_seq ?_;refine tQ ?_;exact Tri.ret ⟨.inr rfl, ret1 rfl resV_tmp (iv_imp (by simp at h0; simp [termsM, h0]))⟩
 ·skip
  have hlen : ¬ ((ts.length : Int) > most) := by simpa using h0
  refine Tri.skip ?_;refine yR ?_;refine yB ?_;refine e_seq ?_;refine tQ ?_;refine Tri.block (Tri.loopW (σ := {i : Nat // firstE (fun x : KT => checkM x.2 0 0) (ts.take i) = 0}) (fun i => ⟨[(0, .pu (.sl 0 116 (ts.map ktP))), (5, iv .i64 i.1)], []⟩) (fun i => ts.length - i.1) ⟨0, rfl⟩ ?_ ?_ (fun i => ?_))
  ·exact zW
  ·exact zW
  refine yR ?_;refine yM ?_;refine yM ?_;refine yC ?_;refine yI ?_;refine e_seq ?_;refine tQ ?_;refine Tri.cond rfl (fun h1 => ?_) (fun h1 => ?_)
  ·skip
   have hi : i.1 < ts.length := by simpa using h1
   refine Tri.skip ?_;refine tQ ?_;refine Tri.block ?_;refine yR ?_;refine yM ?_;refine yM ?_;refine s_val (v_index SS (h0 := by omega) (hp := kt_get hi)) ?_;refine yF ?_;refine yL ?_;refine s_val (v_callD (fun _ => rcheck_c ts[i.1].2 (hts _ (List.getElem_mem hi)) 0 0)) ?_;refine yA ?_;refine e_seq ?_;refine yR ?_;refine yM ?_;refine yI ?_;refine e_seq ?_;refine tQ ?_;refine Tri.cond rfl (fun h2 => ?_) (fun h2 => ?_)
   ·skip
    have h2' : checkM ts[i.1].2 0 0 ≠ 0 := by simpa using h2
    have hf : firstE (fun x : KT => checkM x.2 0 0) (ts.take (i.1 + 1)) = checkM ts[i.1].2 0 0 := by rw [firstE_take _ hi, if_pos i.2]
    have hf2 := firstE_pre (fun x : KT => checkM x.2 0 0) (l := ts) (i := i.1 + 1) (by rw [hf]; exact h2')
    refine yR ?_;refine yM ?_;refine yA ?_;refine e_seq ?_;refine tQ ?_;exact Tri.ret ⟨.inr rfl, ret1 rfl resV_tmp (iv_imp (by simp [termsM, hlen, orE, hf2, hf, h2']))⟩
   ·skip
    have h2' : checkM ts[i.1].2 0 0 = 0 := by simpa using h2
    have hnext : firstE (fun x : KT => checkM x.2 0 0) (ts.take (i.1 + 1)) = 0 := by rw [firstE_take _ hi, if_pos i.2, h2']
    refine Tri.skip ?_;refine yR ?_;refine yM ?_;refine yI ?_;refine yA ?_;refine e_seq ?_
    refine ⟨⟨i.1 + 1, hnext⟩, by show ts.length - (i.1 + 1) < ts.length - i.1; omega, le_of ?_ ?_⟩
    ·exact zE
    ·exact zH
  ·skip
   have hz1 : firstE (fun x : KT => checkM x.2 0 0) ts = 0 := by have := i.2; rwa [List.take_of_length_le (by simp at h1; omega)] at this
   refine Tri.exit ?_;refine yR ?_;refine yB ?_;refine e_seq ?_;refine tQ ?_;refine Tri.block (Tri.loopW (σ := {i : Nat // ((ts.take i).map (·.1)).Nodup}) (fun i => ⟨[(0, .pu (.sl 0 116 (ts.map ktP))), (7, iv .i64 i.1)], []⟩) (fun i => ts.length - i.1) ⟨0, by simp⟩ ?_ ?_ (fun i => ?_))
   ·exact zW
   ·exact zW
   refine yR ?_;refine yM ?_;refine yM ?_;refine yC ?_;refine yI ?_;refine e_seq ?_;refine tQ ?_;refine Tri.cond rfl (fun h3 => ?_) (fun h3 => ?_)
   ·skip
    have hi : i.1 < ts.length := by simpa using h3
    have hdup := nodup_take (l := ts.map (·.1)) (i := i.1) (by simpa using hi)
    rw [List.map_take.symm, List.map_take.symm, List.getElem_map] at hdup
    have hfm := fnd_mem (s := ts[i.1].1) (ts := ts.take i.1)
    have hfc := rfind_c (G := G) (ts.take i.1) ts[i.1].1 (by rw [List.length_take]; omega)
    rw [List.map_take] at hfc
    refine Tri.skip ?_;refine tQ ?_;refine Tri.block ?_;refine yR ?_;refine yM ?_;refine yM ?_;refine s_val (v_sliceTo SS (ps := ts.map ktP) (r := i.1) (by rw [List.length_map]; omega)) ?_;refine yM ?_;refine yM ?_;refine s_val (v_index SS (h0 := by omega) (hp := kt_get hi)) ?_;refine yF ?_;refine yL ?_;refine s_val (v_callD (fun _ => hfc)) ?_;refine yI ?_;refine e_draw ?_;refine tQ ?_;refine Tri.cond rfl (fun h4 => ?_) (fun h4 => ?_)
    ·skip
     have hm := hfm.1 (by simpa using h4)
     have hnd : ¬ (ts.map (·.1)).Nodup := fun hn => by
      have h2 : ((ts.take (i.1 + 1)).map (·.1)).Nodup := by rw [List.map_take]; exact hn.sublist (List.take_sublist _ _)
      exact (hdup.1 h2).2 hm
     refine yR ?_;refine yB ?_;refine e_seq ?_;refine tQ ?_;exact Tri.ret ⟨.inr rfl, ret1 rfl resV_tmp (iv_imp (by simp [termsM, hlen, orE, hz1, dupM, hnd]))⟩
    ·skip
     have hm : ts[i.1].1 ∉ (ts.take i.1).map (·.1) := fun hm => by have := hfm.2 hm; simp at h4; omega
     have hnext : ((ts.take (i.1 + 1)).map (·.1)).Nodup := hdup.2 ⟨i.2, hm⟩
     refine Tri.skip ?_;refine yR ?_;refine yM ?_;refine yI ?_;refine yA ?_;refine e_seq ?_
     refine ⟨⟨i.1 + 1, hnext⟩, by show ts.length - (i.1 + 1) < ts.length - i.1; omega, le_of ?_ ?_⟩
     ·exact zE
     ·exact zH
   ·skip
    have hnd : (ts.map (·.1)).Nodup := by have := i.2; rwa [List.take_of_length_le (by simp at h3; omega)] at this
    refine Tri.exit ?_;refine yR ?_;refine yB ?_;refine e_seq ?_;refine tQ ?_;exact Tri.ret ⟨.inr rfl, ret1 rfl resV_tmp (iv_imp (by simp [termsM, hlen, orE, hz1, dupM, hnd]))⟩
theorem terms_check (ts : List KT) (t : Tm) : orE (termsM ts 40) (checkM t 0 0) = stepCheckM ts t := by
 unfold termsM stepCheckM orE
 split
 ·simp
 ·split
  ·split <;> simp
  ·rename_i h; simp [h]
theorem r16check_c (a b : Pu) (ts : List KT) (t : Tm) (hl : ts.length < 2^40) (hts : ∀ x ∈ ts, tsize x.2 < 2^40) (hN : tsize t < 2^40) : FCall Tryz.prog G 16 [.pu (wdP a b ts), .pu (tmc 0 t)] (iv .i64 (stepCheckM ts t)) := by
 refine FCall.of_tri tbl 14 Tryz.func16 rfl rfl rfl fun w0 M ρ0 D0 => ?_
 refine yR ?_;refine s_box SS 2 ?_;refine s_box SS 3 ?_;refine yB ?_;refine e_seqN [2, 3] ?_;refine yR ?_;refine yF ?_;refine yK ?_;refine s_val (v_callD (fun _ => rterms_c ts 40 hl hts)) ?_;refine yA ?_;refine e_seq ?_;refine yR ?_;refine yM ?_;refine yI ?_;refine e_seq ?_;refine tQ ?_;refine Tri.cond rfl (fun h0 => ?_) (fun h0 => ?_)
 ·skip
  refine yR ?_;refine yM ?_;refine yA ?_;refine e_seq ?_;refine tQ ?_;exact Tri.ret ⟨.inr rfl, ret1 rfl resV_tmp (iv_imp (by rw [← terms_check]; have h0' : termsM ts 40 ≠ 0 := (by simpa using h0); simp [orE, h0']))⟩
 ·skip
  refine Tri.skip ?_;refine yR ?_;refine yL ?_;refine s_val (v_callD (fun _ => rcheck_c t hN 0 0)) ?_;refine yA ?_;refine e_seq ?_;refine tQ ?_;exact Tri.ret ⟨.inr rfl, ret1 rfl resV_tmp (iv_imp (by rw [← terms_check]; have h0' : termsM ts 40 = 0 := (by simpa using h0); simp [orE, h0']))⟩
end Go.Proofs.YtkcgkignhpepkaaGreatDoor

/- The reference: what fits, and the place of work. -/
namespace Go.Proofs.YtkcgkignhpepkaaGreatDoor
open Go Hs
variable {G : List (Nat × TypeId × Pu)}
/-- The first case that fits, and what is bound. -/
def fitI (v : Tm) : List Cs → Nat → Option (Nat × List Tm)
 | [], _ => none
 | .mk q _ :: cs, i => if (fitsM q v).2 then some (i, (fitsM q v).1) else fitI v cs (i + 1)
abbrev fitgV (x : Option (Nat × List Tm)) : PV := .tup [iv .i64 (match x with | some (i, _) => (i : Int) | none => -1), .pu (.sl 0 32 (tmsc 0 (match x with | some (_, l) => l | none => [])))]
theorem fitI_at (v : Tm) : ∀ {cs : List Cs} {i o : Nat} (hi : i < cs.length), (∀ j (hj : j < cs.length), j < i → (fitsM (csP cs[j]) v).2 = false) → (fitsM (csP cs[i]) v).2 = true → fitI v cs o = some (o + i, (fitsM (csP cs[i]) v).1)
 | .mk q b :: cs, 0, o, _, _, h => by simp only [List.getElem_cons_zero, csP] at h ⊢; simp [fitI, h]
 | .mk q b :: cs, i + 1, o, hi, hn, h => by
  have h0 := hn 0 (by simp) (by omega)
  simp only [List.getElem_cons_zero, csP] at h0
  simp only [List.getElem_cons_succ] at h ⊢
  rw [show o + (i + 1) = o + 1 + i by omega]
  simp only [fitI, h0, Bool.false_eq_true, if_false]
  exact fitI_at v (by simpa using hi) (fun j hj hlt => by have := hn (j + 1) (by simpa using hj) (by omega); rwa [List.getElem_cons_succ] at this) h
theorem fitI_none (v : Tm) : ∀ {cs : List Cs} {o : Nat}, (∀ j (hj : j < cs.length), (fitsM (csP cs[j]) v).2 = false) → fitI v cs o = none
 | [], _, _ => rfl
 | .mk q b :: cs, o, hn => by
  have h0 := hn 0 (by simp)
  simp only [List.getElem_cons_zero, csP] at h0
  simp only [fitI, h0, Bool.false_eq_true, if_false]
  exact fitI_none v fun j hj => by have := hn (j + 1) (by simpa using hj); rwa [List.getElem_cons_succ] at this
theorem rfitting_c (k n : Int) (r : List Int) (v : Tm) (ks : List Tm) (cs : List Cs) (hN : tsize (.mk k n r (v :: ks) cs) < 2^30) : FCall Tryz.prog G 91 [.pu (tmc 0 (.mk k n r (v :: ks) cs))] (fitgV (fitI v cs 0)) := by
 have hsz : 1 + tsizeL (v :: ks) + csizeL cs < 2^30 := by simpa only [tsize] using hN
 have hlenc := length_csizeL cs
 have hv : tsize v ≤ tsizeL (v :: ks) := by simp only [tsizeL]; omega
 refine FCall.of_tri tbl 31 Tryz.func91 rfl rfl rfl fun w0 M ρ0 D0 => ?_
 refine yR ?_;refine s_box SS 1 ?_;refine yB ?_;refine yB ?_;refine e_seqN [1] ?_;refine yR ?_;refine yB ?_;refine e_seq ?_;refine tQ ?_;refine Tri.block (Tri.loopW (σ := {i : Nat // ∀ j (hj : j < cs.length), j < i → (fitsM (csP cs[j]) v).2 = false}) (fun i => ⟨[(1, .ptr 1 [] 32), (4, iv .i64 i.1)], [(1, .var 32 (.pu (tmc 0 (.mk k n r (v :: ks) cs))))]⟩) (fun i => cs.length - i.1) ⟨0, by intro j hj h; omega⟩ ?_ ?_ (fun i => ?_))
 ·exact zW
 ·exact zW
 refine yR ?_;refine yM ?_;refine yF ?_;refine yK ?_;refine yC ?_;refine yI ?_;refine e_seq ?_;refine tQ ?_;refine Tri.cond rfl (fun h0 => ?_) (fun h0 => ?_)
 ·skip
  have hi : i.1 < cs.length := by rw [css_length] at h0; simpa using h0
  have hget := css_get (lo := 0) hi
  rw [css_pat] at hget
  have hcz := csize_mem (List.getElem_mem hi)
  have hpz : psize (csP cs[i.1]) ≤ csize cs[i.1] := by generalize cs[i.1] = c; cases c; simp only [csP, csize]; omega
  refine Tri.skip ?_;refine tQ ?_;refine Tri.block ?_;refine yR ?_;refine yF ?_;refine yK ?_;refine yM ?_;refine s_val (v_index SS (h0 := by omega) (hp := hget)) ?_;refine yF ?_;refine yL ?_;refine yF ?_;refine yK ?_;refine s_val (v_index SS (h0 := by omega) (hp := (rfl : (tmsc 0 (v :: ks))[0]? = some (tmc 0 v)))) ?_;refine yL ?_;refine s_val (v_callD (fun _ => rfits_c _ (csP cs[i.1]) (Nat.le_refl _) v (by omega))) ?_;refine yM ?_;refine yX ?_;refine yX ?_;refine yA ?_;refine yA ?_;refine e_draw ?_;refine yR ?_;refine yM ?_;refine e_seq ?_;refine tQ ?_
  refine Tri.cond rfl (fun h1 => ?_) (fun h1 => ?_)
  ·skip
   have hf : fitI v cs 0 = some (0 + i.1, (fitsM (csP cs[i.1]) v).1) := fitI_at v hi i.2 h1
   rw [Nat.zero_add] at hf
   refine yR ?_;refine yM ?_;refine yM ?_;refine yA ?_;refine yA ?_;refine e_seq ?_;refine tQ ?_;rw [hf];exact Tri.ret ⟨.inr rfl, ret2 rfl resV_tmp (VImp.refl _) resV_tmp (VImp.refl _)⟩
  ·skip
   have hnext : ∀ j (hj : j < cs.length), j < i.1 + 1 → (fitsM (csP cs[j]) v).2 = false := fun j hj h => by
    rcases Nat.lt_or_ge j i.1 with h' | h'
    ·exact i.2 j hj h'
    ·obtain rfl : j = i.1 := by omega
     exact h1
   refine Tri.skip ?_;refine yR ?_;refine yM ?_;refine yI ?_;refine yA ?_;refine e_seq ?_
   refine ⟨⟨i.1 + 1, hnext⟩, by show cs.length - (i.1 + 1) < cs.length - i.1; omega, le_of ?_ ?_⟩
   ·exact zE
   ·exact zH
 ·skip
  have hf : fitI v cs 0 = none := fitI_none v fun j hj => i.2 j hj (by rw [css_length] at h0; simp at h0; omega)
  refine Tri.exit ?_;refine yR ?_;refine yB ?_;refine yB ?_;refine e_seq ?_;refine tQ ?_;rw [hf];exact Tri.ret ⟨.inr rfl, ret2 rfl resV_tmp (VImp.refl _) resV_tmp (ToPu.imp (by repeat constructor))⟩
/-- The Kid at which the place of work is. -/
def workI (k : Int) (ks : List Tm) : Option Nat := (ks.take (manyM k ks.length)).findIdx? fun x => !valM x
theorem placeL_work (many : Nat) : ∀ (ks : List Tm) (i : Nat), placeL many i ks = match (ks.take (many - i)).findIdx? (fun x => !valM x) with
  | some j => (i + j) :: (match ks[j]? with | some x => placeM x | none => [])
  | none => []
 | [], i => by simp [placeL]
 | t :: ts, i => by
  simp only [placeL]
  split
  ·rename_i h
   obtain ⟨d, hd⟩ : ∃ d, many - i = d + 1 := ⟨many - i - 1, by omega⟩
   have ih := placeL_work many ts (i + 1)
   rw [show many - (i + 1) = d by omega] at ih
   rw [hd, List.take_succ_cons, List.findIdx?_cons]
   split
   ·rename_i hv
    simp only [hv, Bool.not_true, Bool.false_eq_true, if_false]
    rw [ih]
    cases (ts.take d).findIdx? (fun x => !valM x) with
    | none => rfl
    | some j => simp only [Option.map_some, List.getElem?_cons_succ]; congr 1; omega
   ·rename_i hv
    simp [hv]
  ·rename_i h
   rw [show many - i = 0 by omega]; rfl
theorem place_work (k n : Int) (r : List Int) (ks : List Tm) (cs : List Cs) : placeM (.mk k n r ks cs) = match workI k ks with
  | some j => j :: (match ks[j]? with | some x => placeM x | none => [])
  | none => [] := by
 simp only [placeM]
 rw [placeL_work]
 simp only [Nat.sub_zero, Nat.zero_add]
 rfl
theorem workI_some {k : Int} {ks : List Tm} {j : Nat} (h : workI k ks = some j) : j < manyM k ks.length ∧ ∃ x, ks[j]? = some x ∧ valM x = false := by
 unfold workI at h
 obtain ⟨h1, h2, _⟩ := List.findIdx?_eq_some_iff_getElem.1 h
 rw [List.length_take] at h1
 refine ⟨by omega, ks[j]'(by omega), List.getElem?_eq_getElem _, ?_⟩
 simpa using h2
theorem rworked_c (k n : Int) (r : List Int) (ks : List Tm) (cs : List Cs) (hm : manyM k ks.length ≤ ks.length) (hN : tsize (.mk k n r ks cs) < 2^40) : FCall Tryz.prog G 149 [.pu (tmc 0 (.mk k n r ks cs))] (iv .i64 (match workI k ks with | some j => (j : Int) | none => -1)) := by
 have hsz : 1 + tsizeL ks + csizeL cs < 2^40 := by simpa only [tsize] using hN
 have hlen := length_tsizeL ks
 refine FCall.of_tri tbl 32 Tryz.func149 rfl rfl rfl fun w0 M ρ0 D0 => ?_
 refine yR ?_;refine s_box SS 1 ?_;refine yB ?_;refine e_seqN [1] ?_;refine yR ?_;refine yB ?_;refine e_seq ?_;refine yR ?_;refine yF ?_;refine yL ?_;refine e_seq ?_;refine tQ ?_;refine Tri.cutT ⟨[(1, .ptr 1 [] 32), (3, iv .i64 (manyM k ks.length : Nat))], [(1, .var 32 (.pu (tmc 0 (.mk k n r ks cs))))]⟩ ?_ ?_
 ·skip
  refine tQ ?_;refine Tri.block ?_;refine yR ?_;refine yI ?_;refine yA ?_;refine e_seq ?_;refine tQ ?_;refine Tri.cutT ⟨[(1, .ptr 1 [] 32), (6, iv .i64 k), (3, iv .i64 0), (7, bv (k == 4 || k == 8 || k == 10))], [(1, .var 32 (.pu (tmc 0 (.mk k n r ks cs))))]⟩ ?_ ?_
  ·skip
   refine tQ ?_;refine Tri.cond rfl (fun h0 => ?_) (fun h0 => ?_)
   ·skip
    refine Tri.skip ?_;refine le_of ?_ ?_
    ·repeat (first | exact SubE.nil | refine SubE.cons rfl (by first | rfl | (rw [wrap64 (by omega) (by omega)]; rfl) | (simp only [*, Bool.true_or, Bool.or_true, Bool.false_or])) ?_)
    ·repeat (first | exact SubH.nil | refine SubH.cons rfl (by first | rfl | (rw [wrap64 (by omega) (by omega)]; rfl) | (simp only [*, Bool.true_or, Bool.or_true, Bool.false_or])) ?_)
   ·skip
    refine yR ?_;refine yI ?_;refine yA ?_;refine e_seq ?_;refine tQ ?_;refine Tri.cond rfl (fun h1 => ?_) (fun h1 => ?_)
    ·skip
     refine Tri.skip ?_;refine le_of ?_ ?_
     ·repeat (first | exact SubE.nil | refine SubE.cons rfl (by first | rfl | (rw [wrap64 (by omega) (by omega)]; rfl) | (simp only [*, Bool.true_or, Bool.or_true, Bool.false_or])) ?_)
     ·repeat (first | exact SubH.nil | refine SubH.cons rfl (by first | rfl | (rw [wrap64 (by omega) (by omega)]; rfl) | (simp only [*, Bool.true_or, Bool.or_true, Bool.false_or])) ?_)
    ·skip
     refine yR ?_;refine yI ?_;refine yA ?_;refine e_seq ?_;refine le_of ?_ ?_
     ·repeat (first | exact SubE.nil | refine SubE.cons rfl (by first | rfl | (rw [wrap64 (by omega) (by omega)]; rfl) | (simp only [*, Bool.true_or, Bool.or_true, Bool.false_or])) ?_)
     ·repeat (first | exact SubH.nil | refine SubH.cons rfl (by first | rfl | (rw [wrap64 (by omega) (by omega)]; rfl) | (simp only [*, Bool.true_or, Bool.or_true, Bool.false_or])) ?_)
  ·skip
   refine tQ ?_;refine Tri.cond rfl (fun h2 => ?_) (fun h2 => ?_)
   ·skip
    refine yR ?_;refine yF ?_;refine yK ?_;refine yC ?_;refine yA ?_;refine e_seq ?_;refine le_of ?_ ?_
    ·repeat (first | exact SubE.nil | refine SubE.cons rfl (by first | rfl | (rw [wrap64 (by omega) (by omega)]; rfl) | (first | (rw [tms_length]; simp only [Bool.or_eq_true, beq_iff_eq] at h2; simp only [manyM]; rw [if_pos (by omega)]) | (simp only [Bool.or_eq_false_iff, Bool.or_eq_true, beq_iff_eq, beq_eq_false_iff_ne, ne_eq] at h2 h6; simp only [manyM]; rw [if_neg (by omega), if_pos (by omega)]; rfl) | (simp only [Bool.or_eq_false_iff, beq_eq_false_iff_ne, ne_eq] at h2 h6; simp only [manyM]; rw [if_neg (by omega), if_neg (by omega)]; rfl))) ?_)
    ·repeat (first | exact SubH.nil | refine SubH.cons rfl (by first | rfl | (rw [wrap64 (by omega) (by omega)]; rfl) | (first | (rw [tms_length]; simp only [Bool.or_eq_true, beq_iff_eq] at h2; simp only [manyM]; rw [if_pos (by omega)]) | (simp only [Bool.or_eq_false_iff, Bool.or_eq_true, beq_iff_eq, beq_eq_false_iff_ne, ne_eq] at h2 h6; simp only [manyM]; rw [if_neg (by omega), if_pos (by omega)]; rfl) | (simp only [Bool.or_eq_false_iff, beq_eq_false_iff_ne, ne_eq] at h2 h6; simp only [manyM]; rw [if_neg (by omega), if_neg (by omega)]; rfl))) ?_)
   ·skip
    refine yR ?_;refine yI ?_;refine yA ?_;refine e_seq ?_;refine tQ ?_;refine Tri.cutT ⟨[(1, .ptr 1 [] 32), (3, iv .i64 0), (14, bv (k == 5 || k == 9 || k == 11 || k == 12))], [(1, .var 32 (.pu (tmc 0 (.mk k n r ks cs))))]⟩ ?_ ?_
    ·skip
     refine tQ ?_;refine Tri.cond rfl (fun h3 => ?_) (fun h3 => ?_)
     ·skip
      refine Tri.skip ?_;refine le_of ?_ ?_
      ·repeat (first | exact SubE.nil | refine SubE.cons rfl (by first | rfl | (rw [wrap64 (by omega) (by omega)]; rfl) | (simp only [*, Bool.true_or, Bool.or_true, Bool.false_or])) ?_)
      ·repeat (first | exact SubH.nil | refine SubH.cons rfl (by first | rfl | (rw [wrap64 (by omega) (by omega)]; rfl) | (simp only [*, Bool.true_or, Bool.or_true, Bool.false_or])) ?_)
     ·skip
      refine yR ?_;refine yI ?_;refine yA ?_;refine e_seq ?_;refine tQ ?_;refine Tri.cond rfl (fun h4 => ?_) (fun h4 => ?_)
      ·skip
       refine Tri.skip ?_;refine le_of ?_ ?_
       ·repeat (first | exact SubE.nil | refine SubE.cons rfl (by first | rfl | (rw [wrap64 (by omega) (by omega)]; rfl) | (simp only [*, Bool.true_or, Bool.or_true, Bool.false_or])) ?_)
       ·repeat (first | exact SubH.nil | refine SubH.cons rfl (by first | rfl | (rw [wrap64 (by omega) (by omega)]; rfl) | (simp only [*, Bool.true_or, Bool.or_true, Bool.false_or])) ?_)
      ·skip
       refine yR ?_;refine yI ?_;refine yA ?_;refine e_seq ?_;refine tQ ?_;refine Tri.cond rfl (fun h5 => ?_) (fun h5 => ?_)
       ·skip
        refine Tri.skip ?_;refine le_of ?_ ?_
        ·repeat (first | exact SubE.nil | refine SubE.cons rfl (by first | rfl | (rw [wrap64 (by omega) (by omega)]; rfl) | (simp only [*, Bool.true_or, Bool.or_true, Bool.false_or])) ?_)
        ·repeat (first | exact SubH.nil | refine SubH.cons rfl (by first | rfl | (rw [wrap64 (by omega) (by omega)]; rfl) | (simp only [*, Bool.true_or, Bool.or_true, Bool.false_or])) ?_)
       ·skip
        refine yR ?_;refine yI ?_;refine yA ?_;refine e_seq ?_;refine le_of ?_ ?_
        ·repeat (first | exact SubE.nil | refine SubE.cons rfl (by first | rfl | (rw [wrap64 (by omega) (by omega)]; rfl) | (simp only [*, Bool.true_or, Bool.or_true, Bool.false_or])) ?_)
        ·repeat (first | exact SubH.nil | refine SubH.cons rfl (by first | rfl | (rw [wrap64 (by omega) (by omega)]; rfl) | (simp only [*, Bool.true_or, Bool.or_true, Bool.false_or])) ?_)
    ·skip
     refine tQ ?_;refine Tri.cond rfl (fun h6 => ?_) (fun h6 => ?_)
     ·skip
      refine yR ?_;refine yB ?_;refine e_seq ?_;refine le_of ?_ ?_
      ·repeat (first | exact SubE.nil | refine SubE.cons rfl (by first | rfl | (rw [wrap64 (by omega) (by omega)]; rfl) | (first | (rw [tms_length]; simp only [Bool.or_eq_true, beq_iff_eq] at h2; simp only [manyM]; rw [if_pos (by omega)]) | (simp only [Bool.or_eq_false_iff, Bool.or_eq_true, beq_iff_eq, beq_eq_false_iff_ne, ne_eq] at h2 h6; simp only [manyM]; rw [if_neg (by omega), if_pos (by omega)]; rfl) | (simp only [Bool.or_eq_false_iff, beq_eq_false_iff_ne, ne_eq] at h2 h6; simp only [manyM]; rw [if_neg (by omega), if_neg (by omega)]; rfl))) ?_)
      ·repeat (first | exact SubH.nil | refine SubH.cons rfl (by first | rfl | (rw [wrap64 (by omega) (by omega)]; rfl) | (first | (rw [tms_length]; simp only [Bool.or_eq_true, beq_iff_eq] at h2; simp only [manyM]; rw [if_pos (by omega)]) | (simp only [Bool.or_eq_false_iff, Bool.or_eq_true, beq_iff_eq, beq_eq_false_iff_ne, ne_eq] at h2 h6; simp only [manyM]; rw [if_neg (by omega), if_pos (by omega)]; rfl) | (simp only [Bool.or_eq_false_iff, beq_eq_false_iff_ne, ne_eq] at h2 h6; simp only [manyM]; rw [if_neg (by omega), if_neg (by omega)]; rfl))) ?_)
     ·skip
      refine Tri.skip ?_;refine le_of ?_ ?_
      ·repeat (first | exact SubE.nil | refine SubE.cons rfl (by first | rfl | (rw [wrap64 (by omega) (by omega)]; rfl) | (first | (rw [tms_length]; simp only [Bool.or_eq_true, beq_iff_eq] at h2; simp only [manyM]; rw [if_pos (by omega)]) | (simp only [Bool.or_eq_false_iff, Bool.or_eq_true, beq_iff_eq, beq_eq_false_iff_ne, ne_eq] at h2 h6; simp only [manyM]; rw [if_neg (by omega), if_pos (by omega)]; rfl) | (simp only [Bool.or_eq_false_iff, beq_eq_false_iff_ne, ne_eq] at h2 h6; simp only [manyM]; rw [if_neg (by omega), if_neg (by omega)]; rfl))) ?_)
      ·repeat (first | exact SubH.nil | refine SubH.cons rfl (by first | rfl | (rw [wrap64 (by omega) (by omega)]; rfl) | (first | (rw [tms_length]; simp only [Bool.or_eq_true, beq_iff_eq] at h2; simp only [manyM]; rw [if_pos (by omega)]) | (simp only [Bool.or_eq_false_iff, Bool.or_eq_true, beq_iff_eq, beq_eq_false_iff_ne, ne_eq] at h2 h6; simp only [manyM]; rw [if_neg (by omega), if_pos (by omega)]; rfl) | (simp only [Bool.or_eq_false_iff, beq_eq_false_iff_ne, ne_eq] at h2 h6; simp only [manyM]; rw [if_neg (by omega), if_neg (by omega)]; rfl))) ?_)
 ·skip
  refine yR ?_;refine yB ?_;refine e_seq ?_;refine tQ ?_;refine Tri.block (Tri.loopW (σ := {i : Nat // ∀ j (hj : j < ks.length), j < i → valM ks[j] = true}) (fun i => ⟨[(1, .ptr 1 [] 32), (3, iv .i64 (manyM k ks.length : Nat)), (4, iv .i64 i.1)], [(1, .var 32 (.pu (tmc 0 (.mk k n r ks cs))))]⟩) (fun i => manyM k ks.length - i.1) ⟨0, by intro j hj h; omega⟩ ?_ ?_ (fun i => ?_))
  ·exact zW
  ·exact zW
  refine yR ?_;refine yM ?_;refine yM ?_;refine yI ?_;refine e_seq ?_;refine tQ ?_;refine Tri.cond rfl (fun h7 => ?_) (fun h7 => ?_)
  ·skip
   have hi1 : i.1 < manyM k ks.length := by simpa using h7
   have hi : i.1 < ks.length := by omega
   have hts := tsize_mem (List.getElem_mem hi)
   refine Tri.skip ?_;refine tQ ?_;refine Tri.block ?_;refine yR ?_;refine yF ?_;refine yK ?_;refine yM ?_;refine s_val (v_index SS (h0 := by omega) (hp := tms_get hi)) ?_;refine yL ?_;refine s_val (v_callD (fun _ => rvalue_c _ ks[i.1] (Nat.le_refl _) (by omega))) ?_;refine yQ ?_;refine e_seq ?_;refine tQ ?_;refine Tri.cond rfl (fun h8 => ?_) (fun h8 => ?_)
   ·skip
    have hw : workI k ks = some i.1 := by
     unfold workI
     refine List.findIdx?_eq_some_iff_getElem.2 ⟨by rw [List.length_take]; omega, by simpa using h8, fun j hj => ?_⟩
     have := i.2 j (by omega) hj
     simp [this]
    refine yR ?_;refine yM ?_;refine yA ?_;refine e_seq ?_;refine tQ ?_;exact Tri.ret ⟨.inr rfl, ret1 rfl resV_tmp (iv_imp (by rw [hw]))⟩
   ·skip
    have hnext : ∀ j (hj : j < ks.length), j < i.1 + 1 → valM ks[j] = true := fun j hj h => by
     rcases Nat.lt_or_ge j i.1 with h' | h'
     ·exact i.2 j hj h'
     ·obtain rfl : j = i.1 := by omega
      simpa using h8
    refine Tri.skip ?_;refine yR ?_;refine yM ?_;refine yI ?_;refine yA ?_;refine e_seq ?_
    refine ⟨⟨i.1 + 1, hnext⟩, by show manyM k ks.length - (i.1 + 1) < manyM k ks.length - i.1; omega, le_of ?_ ?_⟩
    ·exact zE
    ·exact zH
  ·skip
   have hw : workI k ks = none := by
    unfold workI
    rw [List.findIdx?_eq_none_iff]
    intro x hx
    obtain ⟨j, hj, rfl⟩ := List.getElem_of_mem hx
    rw [List.length_take] at hj
    rw [List.getElem_take, i.2 j (by omega) (by simp at h7; omega)]; rfl
   refine Tri.exit ?_;refine yR ?_;refine yB ?_;refine e_seq ?_;refine tQ ?_;exact Tri.ret ⟨.inr rfl, ret1 rfl resV_tmp (iv_imp (by rw [hw]))⟩
end Go.Proofs.YtkcgkignhpepkaaGreatDoor

/- The reference: the place of work, and the next step. -/
namespace Go.Proofs.YtkcgkignhpepkaaGreatDoor
open Go Hs
variable {G : List (Nat × TypeId × Pu)}
theorem rplace_c (t0 : Tm) (hs0 : shT t0) (hN : tsize t0 < 2^30) : FCall Tryz.prog G 88 [.pu (tmc 0 t0)] (.pu (.sl 0 3 (pathL (placeM t0)))) := by
 have hpl := place_len t0
 refine FCall.of_tri tbl 19 Tryz.func88 rfl rfl rfl fun w0 M ρ0 D0 => ?_
 refine yR ?_;refine s_box SS 1 ?_;refine yB ?_;refine e_seqN [1] ?_;refine yR ?_;refine yB ?_;refine e_seq ?_;refine tQ ?_;refine Tri.block (Tri.loopW (σ := {q : List Nat × Tm // q.1 ++ placeM q.2 = placeM t0 ∧ shT q.2 ∧ tsize q.2 ≤ tsize t0}) (fun i => ⟨[(1, .ptr 1 [] 32), (3, .ow 0 3 (pathL i.1.1))], [(1, .var 32 (.pu (tmc 0 i.1.2)))]⟩) (fun i => tsize i.1.2) ⟨([], t0), rfl, hs0, Nat.le_refl _⟩ ?_ ?_ (fun i => ?_))
 ·repeat (first | exact .nil | refine .cons rfl (by first | exact .refl | (focus ((repeat constructor); done)) | (exact .nilcOw)) ?_)
 ·repeat (first | exact .nil | refine .cons rfl (by first | exact .refl | (focus ((repeat constructor); done)) | (exact .nilcOw)) ?_)
 refine tQ ?_;refine Tri.block ?_
 obtain ⟨⟨acc, k, n, r, ks, cs⟩, hacc, hsh, hsz⟩ := i
 dsimp only at hacc hsh hsz ⊢
 have hsz' := hsz
 have hsh' := hsh
 simp only [shT] at hsh
 simp only [tsize] at hsz'
 have hlen := length_tsizeL ks
 have hal := congrArg List.length hacc
 simp only [List.length_append] at hal
 have hpw := place_work k n r ks cs
 have hmk := fun j => workI_some (k := k) (ks := ks) (j := j)
 have hwc := rworked_c (G := G) k n r ks cs (many_le hsh.1) (by simp only [tsize]; omega)
 rw [hpw] at hacc
 generalize workI k ks = wo at hacc hmk hwc
 refine yR ?_;refine yL ?_;refine s_val (v_callD (fun _ => hwc)) ?_;refine yA ?_;refine e_seq ?_;refine yR ?_;refine yM ?_;refine yI ?_;refine e_seq ?_;refine tQ ?_;refine Tri.cond rfl (fun h0 => ?_) (fun h0 => ?_)
 ·skip
  have hwo : wo = none := by cases wo with
   | none => rfl
   | some j => simp at h0; omega
  have hfin : placeM t0 = acc := by rw [hwo] at hacc; simpa using hacc.symm
  refine yR ?_;refine yM ?_;refine yA ?_;refine e_seq ?_;refine tQ ?_;exact Tri.ret ⟨.inr rfl, ret1 rfl resV_tmp ((by rw [hfin]; exact ToPu.imp (by repeat constructor)))⟩
 ·skip
  obtain ⟨j, hwo⟩ : ∃ j, wo = some j := by cases wo with
   | none => simp at h0
   | some j => exact ⟨j, rfl⟩
  subst hwo
  obtain ⟨hj1, x, hx, hxv⟩ := hmk j rfl
  simp only [hx] at hacc
  have hxm := List.mem_of_getElem? hx
  have hxs := tsize_mem hxm
  have hxg : (tmsc 0 ks)[j]? = some (tmc 0 x) := by simp [tms_eq, hx]
  have hnext : (acc ++ [j]) ++ placeM x = placeM t0 ∧ shT x ∧ tsize x ≤ tsize t0 := ⟨by rw [← hacc]; simp, shL_mem hsh.2.2.1 _ hxm, by omega⟩
  dsimp only
  refine Tri.skip ?_;refine yR ?_;refine yM ?_;refine yM ?_;refine yZ ?_;refine s_app1 3 ?_ ?_
  ·simp [path_len]; omega
  refine yA ?_;refine e_seq ?_;refine yR ?_;refine yF ?_;refine yK ?_;refine yM ?_;refine s_val (v_index SS (h0 := by omega) (hp := hxg)) ?_;refine yL ?_;refine yS ?_;refine e_seq ?_
  refine ⟨⟨(acc ++ [j], x), hnext⟩, by show tsize x < tsize (.mk k n r ks cs); simp only [tsize]; omega, le_of ?_ ?_⟩
  ·repeat (first | exact SubE.nil | refine SubE.cons rfl (by first | rfl | (rw [wrap64 (by omega) (by omega)]; rfl) | (rw [pathL_append]; rfl)) ?_)
  ·repeat (first | exact SubH.nil | refine SubH.cons rfl (by first | rfl | (rw [wrap64 (by omega) (by omega)]; rfl) | (rw [pathL_append]; rfl)) ?_)
theorem pathL_take (p : List Nat) (i : Nat) : (pathL p).take i = pathL (p.take i) := by simp [pathL]
theorem rat_c (t0 : Tm) (p : List Nat) (hok : okP t0 p) (hl : p.length < 2^40) : FCall Tryz.prog G 89 [.pu (tmc 0 t0), .pu (.sl 0 3 (pathL p))] (.pu (tmc 0 (walkM t0 p))) := by
 refine FCall.of_tri tbl 21 Tryz.func89 rfl rfl rfl fun w0 M ρ0 D0 => ?_
 refine yR ?_;refine s_box SS 2 ?_;refine s_alloc SS 4 ?_;refine e_seqN [2, 4] ?_;refine yR ?_;refine yB ?_;refine e_seq ?_;refine tQ ?_;refine Tri.block (Tri.loopW (σ := Nat) (fun i => ⟨[(2, .ptr 2 [] 32), (4, .ptr 4 [] 32), (1, .pu (.sl 0 3 (pathL p))), (5, iv .i64 i)], [(2, .var 32 (.pu (tmc 0 (walkM t0 (p.take i))))), (4, .var 32 (.agg 32 [iv .i64 0, iv .i64 0, .pu (refP Z32), .nilc, .nilc]))]⟩) (fun i => p.length - i) 0 ?_ ?_ (fun i => ?_))
 ·exact zW
 ·exact zW
 refine yR ?_;refine yM ?_;refine yM ?_;refine yC ?_;refine yI ?_;refine e_seq ?_;refine tQ ?_;refine Tri.cond rfl (fun h0 => ?_) (fun h0 => ?_)
 ·skip
  have hi : i < p.length := by rw [path_len] at h0; simpa using h0
  obtain ⟨x, hx1, hx2, hx3⟩ := walk_snoc hok hi
  have hpg := path_get hi
  rw [getElem!_pos p i hi] at hx1
  generalize p[i] = m at hx1 hpg
  generalize walkM t0 (p.take i) = t at hx1 ⊢
  obtain ⟨k, n, r, ks, cs⟩ := t
  simp only [Tm.kids] at hx1
  have hxg : (tmsc 0 ks)[m]? = some (tmc 0 x) := by simp [tms_eq, hx1]
  refine Tri.skip ?_;refine tQ ?_;refine Tri.block ?_;refine yR ?_;refine yF ?_;refine yK ?_;refine yM ?_;refine yM ?_;refine s_val (v_index SS (h0 := by omega) (hp := hpg)) ?_;refine yL ?_;refine s_val (v_index SS (h0 := by omega) (hp := hxg)) ?_;refine yL ?_;refine yS ?_;refine e_draw ?_;refine yR ?_;refine yM ?_;refine yI ?_;refine yA ?_;refine e_seq ?_
  refine ⟨i + 1, by omega, le_of ?_ ?_⟩
  ·repeat (first | exact SubE.nil | refine SubE.cons rfl (by first | rfl | (rw [wrap64 (by omega) (by omega)]; rfl) | (rw [hx2])) ?_)
  ·repeat (first | exact SubH.nil | refine SubH.cons rfl (by first | rfl | (rw [wrap64 (by omega) (by omega)]; rfl) | (rw [hx2])) ?_)
 ·skip
  have hi : p.length ≤ i := by rw [path_len] at h0; simpa using h0
  rw [List.take_of_length_le hi];refine Tri.exit ?_;refine yR ?_;refine yL ?_;refine yS ?_;refine e_seq ?_;refine tQ ?_;exact Tri.ret ⟨.inr rfl, ret1 rfl resV_cell (ToPu.imp (by repeat constructor))⟩
theorem walk_take_ok : ∀ {t : Tm} {p : List Nat} (i : Nat), okP t p → okP t (p.take i)
 | t, [], i, _ => by simp [okP]
 | t, j :: p, 0, _ => trivial
 | t, j :: p, i + 1, ⟨x, hx, h⟩ => ⟨x, hx, walk_take_ok i h⟩
theorem rhandler_c (t0 : Tm) (p : List Nat) (hok : okP t0 p) (hl : p.length < 2^40) (hz : ∀ i (hi : i < p.length), (walkM t0 (p.take i)).kind = 12 → p[i] = 0) :
  FCall Tryz.prog G 92 [.pu (tmc 0 t0), .pu (.sl 0 3 (pathL p))] (iv .i64 (handM (wayM t0 p) (walkM t0 p).ref p.length)) := by
 have hwl := way_len hok
 have hac := rat_c (G := G) t0 p hok hl
 have hwf : wfT t0 → wfT (walkM t0 p) := fun h => by
  have : ∀ (p : List Nat) (t : Tm), wfT t → wfT (walkM t p) := fun p => by
   induction p with
   | nil => intro t h; exact h
   | cons i p ih =>
    intro t h
    simp only [walkM]
    split
    ·rename_i x hx
     obtain ⟨k, n, r, ks, cs⟩ := t
     exact ih x (wfTs_mem h.2.1 _ (List.mem_of_getElem? hx))
    ·exact h
  exact this p t0 h
 have hwf2 : ∀ i, wfT t0 → wfT (walkM t0 (p.take i)) := fun i h => by
  have : ∀ (p : List Nat) (t : Tm), wfT t → wfT (walkM t p) := fun p => by
   induction p with
   | nil => intro t h; exact h
   | cons i p ih =>
    intro t h
    simp only [walkM]
    split
    ·rename_i x hx
     obtain ⟨k, n, r, ks, cs⟩ := t
     exact ih x (wfTs_mem h.2.1 _ (List.mem_of_getElem? hx))
    ·exact h
  exact this _ t0 h
 refine FCall.of_tri tbl 41 Tryz.func92 rfl rfl rfl fun w0 M ρ0 D0 => ?_
 refine Tri.fact (i := 0) rfl (fun D w x h => tm_wf h) (fun hr => ?_)
 have hdl := hwf hr
 generalize hd : walkM t0 p = d at hac hdl ⊢
 obtain ⟨dk, dn, dr, dks, dcs⟩ := d
 simp only [Tm.ref]
 refine yR ?_;refine s_box SS 2 ?_;refine yB ?_;refine e_seqN [2] ?_;refine yR ?_;refine yL ?_;refine yM ?_;refine s_val (v_callD (fun _ => hac)) ?_;refine s_val (v_getField SS (ht := TyV.ok)) ?_;refine s_alloc SS 5 ?_;refine yS ?_;refine e_seqN [5] ?_;refine yR ?_;refine yM ?_;refine yC ?_;refine yI ?_;refine yA ?_;refine e_seq ?_;refine tQ ?_
 refine Tri.block (Tri.loopW (σ := {j : Nat // j ≤ p.length ∧ handM (wayM t0 p) dr p.length = handM (wayM t0 p) dr j}) (fun i => ⟨[(2, .ptr 2 [] 32), (5, .ptr 5 [] 28), (1, .pu (.sl 0 3 (pathL p))), (6, iv .i64 ((i.1 : Int) - 1))], [(2, .var 32 (.pu (tmc 0 t0))), (5, .var 28 (.pu (refP dr)))]⟩) (fun i => i.1) ⟨p.length, Nat.le_refl _, rfl⟩ ?_ ?_ (fun i => ?_))
 ·repeat (first | exact .nil | refine .cons rfl (by first | exact .refl | (focus ((repeat constructor); done)) | (rw [path_len, wrap64 (by omega) (by omega)]; exact .refl)) ?_)
 ·repeat (first | exact .nil | refine .cons rfl (by first | exact .refl | (focus ((repeat constructor); done)) | (rw [path_len, wrap64 (by omega) (by omega)]; exact .refl)) ?_)
 refine yR ?_;refine yM ?_;refine yI ?_;refine e_seq ?_;refine tQ ?_;refine Tri.cond rfl (fun h0 => ?_) (fun h0 => ?_)
 ·skip
  have hj : 0 < i.1 := by simp at h0; omega
  obtain ⟨j, hj⟩ : ∃ j, i.1 = j + 1 := ⟨i.1 - 1, by omega⟩
  have hjp : j < p.length := by have := i.2.1; omega
  have hwg := way_get hok (show j ≤ p.length by omega)
  have hxl := hwf2 j hr
  have hst := i.2.2
  rw [hj] at hst
  simp only [handM, hwg] at hst
  have hxz := hz j hjp
  have hpg := path_get hjp
  have hatj := rat_c (G := G) t0 (p.take j) (walk_take_ok j hok) (by rw [List.length_take]; omega)
  rw [← pathL_take] at hatj
  generalize walkM t0 (p.take j) = x at hxl hst hxz hatj
  obtain ⟨xk, xn, xr, xs, xc⟩ := x
  simp only [Tm.kind, Tm.ref] at hst hxz
  have hij : ((i.1 : Int) - 1) = (j : Int) := by omega
  refine Tri.skip ?_;refine tQ ?_;refine Tri.block ?_;rw [hij];refine yR ?_;refine yL ?_;refine yM ?_;refine yM ?_;refine s_val (v_sliceTo SS (ps := pathL p) (r := j) (by rw [path_len]; omega)) ?_;refine s_val (v_callD (fun _ => hatj)) ?_;refine s_alloc SS 7 ?_;refine yS ?_;refine e_drawN [7] ?_;refine yR ?_;refine yF ?_;refine yL ?_;refine yI ?_;refine yM ?_;refine xF ?_;refine xL ?_;refine xL ?_;refine s_gg zG (v_bin SS (h := bin_eqS (hxl.1.trans hdl.1.symm))) ?_;refine yN ?_;refine yM ?_;refine xM ?_;refine xM ?_
  refine s_gg zG (v_indexG SS (i := (j : Int)) (.leaf (.int .i64 (p[j] : Nat))) (fun _ => ⟨by omega, by simpa using hpg⟩)) ?_;refine xL ?_;refine xI ?_;refine yN ?_;refine e_seq ?_;refine tQ ?_;refine Tri.cond rfl (fun h1 => ?_) (fun h1 => ?_)
  ·skip
   have hxe : xk = 12 ∧ xr = dr := by simp only [Bool.and_eq_true, beq_iff_eq] at h1; exact h1.1
   refine yR ?_;refine yM ?_;refine yA ?_;refine e_seq ?_;refine tQ ?_;exact Tri.ret ⟨.inr rfl, ret1 rfl resV_tmp (iv_imp (hst.trans (if_pos (by simp [hxe]))).symm)⟩
  ·skip
   have hnext : handM (wayM t0 p) dr p.length = handM (wayM t0 p) dr j := by
    refine hst.trans (if_neg fun hc => ?_)
    simp only [Bool.and_eq_true, beq_iff_eq] at hc
    have := hxz hc.1
    simp [hc.1, hc.2, this] at h1
   refine Tri.skip ?_;refine yR ?_;refine yM ?_;refine yI ?_;refine yA ?_;refine e_seq ?_
   refine ⟨⟨j, by omega, hnext⟩, by show j < i.1; omega, le_of ?_ ?_⟩
   ·repeat (first | exact SubE.nil | refine SubE.cons rfl (by first | rfl | (rw [wrap64 (by omega) (by omega)]; rfl) | (rw [wrap64 (by omega) (by omega)])) ?_)
   ·repeat (first | exact SubH.nil | refine SubH.cons rfl (by first | rfl | (rw [wrap64 (by omega) (by omega)]; rfl) | (rw [wrap64 (by omega) (by omega)])) ?_)
 ·skip
  refine Tri.exit ?_;refine yR ?_;refine yB ?_;refine e_seq ?_;refine tQ ?_;exact Tri.ret ⟨.inr rfl, ret1 rfl resV_tmp (iv_imp (by have := i.2.2; simp at h0; rw [this, show i.1 = 0 by omega]; rfl))⟩
end Go.Proofs.YtkcgkignhpepkaaGreatDoor

/- Right terms: what is kept by steps. -/
namespace Go.Proofs.YtkcgkignhpepkaaGreatDoor
open Go Hs
variable {G : List (Nat × TypeId × Pu)}
/-! Terms with so many variables in front, of right kinds. -/
mutual
def gdT (d : Int) : Tm → Prop
 | .mk k n _ ks cs => (1 ≤ k ∧ k ≤ 12 ∧ k ≠ 7) ∧ kidsM k ks.length = true ∧ (k = 11 → 0 ≤ n ∧ n ≤ 7) ∧ (k = 1 → 0 ≤ n ∧ n < d) ∧ gdK d k 0 ks ∧ gdC d cs
def gdK (d k : Int) (i : Nat) : List Tm → Prop
 | [] => True
 | t :: ts => gdT (d + moreM k i) t ∧ gdK d k (i + 1) ts
def gdC (d : Int) : List Cs → Prop
 | [] => True
 | c :: cs => gdS d c ∧ gdC d cs
def gdS (d : Int) : Cs → Prop
 | .mk q t => perr q = 0 ∧ gdT (d + bindsM q) t
end
mutual
theorem gd_sh : ∀ {t : Tm} {d : Int}, gdT d t → shT t
 | .mk k n r ks cs, d, h => ⟨h.2.1, h.2.2.1, gdK_sh h.2.2.2.2.1, gdC_sh h.2.2.2.2.2⟩
theorem gdK_sh : ∀ {ks : List Tm} {d k : Int} {i : Nat}, gdK d k i ks → shL ks
 | [], _, _, _, _ => trivial
 | t :: ts, _, _, _, h => ⟨gd_sh h.1, gdK_sh h.2⟩
theorem gdC_sh : ∀ {cs : List Cs} {d : Int}, gdC d cs → shC cs
 | [], _, _ => trivial
 | .mk q t :: cs, _, h => ⟨gd_sh (t := t) h.1.2, gdC_sh h.2⟩
end
mutual
theorem gd_mono : ∀ {t : Tm} {d e : Int}, d ≤ e → gdT d t → gdT e t
 | .mk k n r ks cs, d, e, hd, h => ⟨h.1, h.2.1, h.2.2.1, fun hk => by have := h.2.2.2.1 hk; omega, gdK_mono hd h.2.2.2.2.1, gdC_mono hd h.2.2.2.2.2⟩
theorem gdK_mono : ∀ {ks : List Tm} {d e k : Int} {i : Nat}, d ≤ e → gdK d k i ks → gdK e k i ks
 | [], _, _, _, _, _, _ => trivial
 | t :: ts, d, e, k, i, hd, h => ⟨gd_mono (by omega) h.1, gdK_mono hd h.2⟩
theorem gdC_mono : ∀ {cs : List Cs} {d e : Int}, d ≤ e → gdC d cs → gdC e cs
 | [], _, _, _, _ => trivial
 | .mk q t :: cs, d, e, hd, h => ⟨⟨h.1.1, gd_mono (t := t) (d := d + bindsM q) (e := e + bindsM q) (by omega) h.1.2⟩, gdC_mono hd h.2⟩
end
theorem termErr_gd {b k n : Int} {r : List Int} {nk nc : Nat} (h : termErr 0 0 b k n r nk nc = 0) (hn : -2^63 ≤ n ∧ n < 2^63) (hb : 0 ≤ b ∧ b < 2^62) : (1 ≤ k ∧ k ≤ 12 ∧ k ≠ 7) ∧ kidsM k nk = true ∧ (k = 11 → 0 ≤ n ∧ n ≤ 7) ∧ (k = 1 → 0 ≤ n ∧ n < b) := by
 unfold termErr at h
 by_cases h0 : offM k 1 12 = true
 ·rw [if_pos h0] at h; omega
 rw [if_neg h0] at h
 have hk := notOff (by simpa using h0)
 by_cases h1 : clashM (hasNumM k) (hasRefM k) (hasCasesM k) n r nc = true
 ·rw [if_pos h1] at h; omega
 rw [if_neg h1] at h
 by_cases h2 : (!kidsM k nk || decide ((nc : Int) > 8)) = true
 ·rw [if_pos h2] at h; omega
 rw [if_neg h2] at h
 by_cases h3 : (k == 10 && offM n 1 5) = true
 ·rw [if_pos h3] at h; omega
 rw [if_neg h3] at h
 by_cases h4 : (k == 1 && !knownM 0 n b) = true
 ·rw [if_pos h4] at h; omega
 rw [if_neg h4] at h
 by_cases h5 : (k == 7 && (decide (n < 0) || decide (n ≥ 0))) = true
 ·rw [if_pos h5] at h; omega
 rw [if_neg h5] at h
 by_cases h6 : ((k == 2 || k == 8 || k == 11) && offM n 0 (if k == 8 || k == 11 then 7 else 1073741824)) = true
 ·rw [if_pos h6] at h; omega
 simp only [Bool.or_eq_true, not_or, Bool.not_eq_true, Bool.not_eq_false'] at h2
 refine ⟨⟨hk.1, hk.2, fun e => ?_⟩, by simpa using h2.1, fun e => ?_, fun e => ?_⟩
 ·subst e; simp at h5; omega
 ·subst e; simp [offM] at h6; omega
 ·subst e
  have h7 : knownM 0 n b = true := by simpa using h4
  simp only [knownM, Bool.and_eq_true, decide_eq_true_eq, Bool.or_eq_true] at h7
  refine ⟨by omega, ?_⟩
  rcases h7.2 with h | h
  ·exact h
  ·rw [wrap64 (by omega) (by omega)] at h; omega
mutual
theorem aerr_gd : ∀ {t : Tm} {b : Int}, aerr 0 0 b t = 0 → rgT t → 0 ≤ b → b + 2 * tsize t ≤ 2^60 → gdT b t
 | .mk k n r ks cs, b, h, hr, hb, hz => by
  simp only [aerr] at h
  obtain ⟨h1, h⟩ := orE_zero h
  obtain ⟨h0, h⟩ := orE_zero h
  obtain ⟨h2, h3⟩ := orE_zero h
  have hpe := firstE_zero h0
  simp only [tsize] at hz
  obtain ⟨g1, g2, g3, g4⟩ := termErr_gd h1 hr.1 (by omega)
  exact ⟨g1, g2, g3, g4, aerrK_gd h2 hr.2.1 hb (by omega), aerrC_gd h3 hpe hr.2.2 hb (by omega)⟩
theorem aerrK_gd : ∀ {ks : List Tm} {b k : Int} {i : Nat}, aerrK 0 0 b k i ks = 0 → rgK ks → 0 ≤ b → b + 2 + 2 * tsizeL ks ≤ 2^60 → gdK b k i ks
 | [], _, _, _, _, _, _, _ => trivial
 | t :: ts, b, k, i, h, hr, hb, hz => by
  simp only [aerrK] at h
  obtain ⟨h1, h2⟩ := orE_zero h
  simp only [tsizeL] at hz
  have := more_b k i
  exact ⟨aerr_gd h1 hr.1 (by omega) (by omega), aerrK_gd h2 hr.2 hb (by omega)⟩
theorem aerrC_gd : ∀ {cs : List Cs} {b : Int}, aerrC 0 0 b cs = 0 → (∀ c ∈ cs, perr (csP c) = 0) → rgC cs → 0 ≤ b → b + 2 + 2 * csizeL cs ≤ 2^60 → gdC b cs
 | [], _, _, _, _, _, _ => trivial
 | .mk q t :: cs, b, h, hp, hr, hb, hz => by
  simp only [aerrC, aerrCs] at h
  obtain ⟨h1, h2⟩ := orE_zero h
  simp only [csizeL, csize] at hz
  have := binds_bound q
  exact ⟨⟨hp _ (List.mem_cons_self ..), aerr_gd (t := t) h1 hr.1 (by omega) (by omega)⟩, aerrC_gd h2 (fun c hc => hp c (List.mem_cons_of_mem _ hc)) hr.2 hb (by omega)⟩
end
theorem check_gd {t : Tm} (h : checkM t 0 0 = 0) (hr : rgT t) : gdT 0 t := by
 have hz := (check_sh h).2
 unfold checkM at h
 split at h
 ·cases h
 ·exact aerr_gd h hr (by omega) (by omega)
theorem gdK_mem : ∀ {ks : List Tm} {d k : Int} {i : Nat}, gdK d k i ks → ∀ {j : Nat} {x : Tm}, ks[j]? = some x → gdT (d + moreM k ((i + j : Nat) : Int)) x
 | t :: ts, d, k, i, h, 0, x, hx => by simp at hx; subst hx; exact h.1
 | t :: ts, d, k, i, h, j + 1, x, hx => by
  have := gdK_mem h.2 (j := j) (by simpa using hx)
  rwa [show i + 1 + j = i + (j + 1) by omega] at this
theorem gd_kid {t : Tm} {d : Int} (h : gdT d t) {j : Nat} {x : Tm} (hx : t.kids[j]? = some x) : gdT (d + moreM t.kind (j : Nat)) x := by
 obtain ⟨k, n, r, ks, cs⟩ := t
 have := gdK_mem h.2.2.2.2.1 hx
 rwa [Nat.zero_add] at this
theorem gdC_mem : ∀ {cs : List Cs} {d : Int}, gdC d cs → ∀ c ∈ cs, perr (csP c) = 0 ∧ gdT (d + bindsM (csP c)) (csT c)
 | .mk q t :: cs, d, h, c, hc => by
  rcases List.mem_cons.1 hc with rfl | hc
  ·exact h.1
  ·exact gdC_mem h.2 c hc
mutual
theorem put_gd (vs : List Tm) (hvs : ∀ v ∈ vs, gdT 0 v) : ∀ (t : Tm) (d : Int), 0 ≤ d → d + vs.length + 2 * tsize t ≤ 2^60 → gdT (d + vs.length) t → gdT d (putM vs d t)
 | .mk k n r ks cs, d, hd, hz, h => by
  simp only [tsize] at hz
  obtain ⟨h1, h2, h3, h4, h5, h6⟩ := h
  have hK := putK_gd vs hvs ks d k 0 hd (by omega) h5
  have hC := putC_gd vs hvs cs d hd (by omega) h6
  simp only [putM]
  split
  ·rename_i hc
   have hn := h4 hc.1
   have hw : IntKind.wrap .i64 (n - d) = n - d := wrap64 (by omega) (by omega)
   split
   ·exact gd_mono hd (hvs _ (List.getElem_mem _))
   ·rename_i hlt; omega
  ·rename_i hc
   refine ⟨h1, by rw [putK_len]; exact h2, h3, fun hk => ?_, hK, hC⟩
   have hn := h4 hk
   refine ⟨hn.1, ?_⟩
   by_cases hv : 0 < vs.length
   ·have : ¬ 0 ≤ IntKind.wrap .i64 (n - d) := fun h0 => hc ⟨hk, h0, hv⟩
    rw [wrap64 (by omega) (by omega)] at this
    omega
   ·omega
theorem putK_gd (vs : List Tm) (hvs : ∀ v ∈ vs, gdT 0 v) : ∀ (ks : List Tm) (d k : Int) (i : Nat), 0 ≤ d → d + vs.length + 2 + 2 * tsizeL ks ≤ 2^60 → gdK (d + vs.length) k i ks → gdK d k i (putK vs d k i ks)
 | [], _, _, _, _, _, _ => trivial
 | t :: ts, d, k, i, hd, hz, h => by
  simp only [tsizeL] at hz
  have hm := more_b k i
  simp only [putK]
  refine ⟨put_gd vs hvs t (d + moreM k i) (by omega) (by omega) ?_, putK_gd vs hvs ts d k (i + 1) hd (by omega) h.2⟩
  rw [show d + moreM k i + (vs.length : Int) = d + vs.length + moreM k i by omega];exact h.1
theorem putC_gd (vs : List Tm) (hvs : ∀ v ∈ vs, gdT 0 v) : ∀ (cs : List Cs) (d : Int), 0 ≤ d → d + vs.length + 2 + 2 * csizeL cs ≤ 2^60 → gdC (d + vs.length) cs → gdC d (putC vs d cs)
 | [], _, _, _, _ => trivial
 | .mk q t :: cs, d, hd, hz, h => by
  simp only [csizeL, csize] at hz
  have hm := binds_bound q
  simp only [putC, putS]
  refine ⟨⟨h.1.1, ?_⟩, putC_gd vs hvs cs d hd (by omega) h.2⟩
  have h1 : gdT (d + vs.length + bindsM q) t := h.1.2
  show gdT (d + bindsM q) (putM vs (d + bindsM q) t)
  exact put_gd vs hvs t (d + bindsM q) (by omega) (by omega) (by rw [show d + bindsM q + (vs.length : Int) = d + vs.length + bindsM q by omega]; exact h1)
end
/-! What fits. -/
theorem more8 (i : Int) : moreM 8 i = 0 := by unfold moreM; simp
mutual
theorem fits_gd : ∀ (p : Pat) {v : Tm} {d : Int}, gdT d v → ∀ x ∈ (fitsM p v).1, gdT d x
 | .mk k n r ks, v, d, h, x, hx => by
  simp only [fitsM] at hx
  split at hx
  ·simp at hx; subst hx; exact h
  ·split at hx
   ·simp at hx
   ·split at hx
    ·split at hx
     ·simp at hx
     ·rename_i hc
      have hk8 : v.kind = 8 := by simp at hc; exact hc.1.1.1
      refine fitsL_gd ks (fun j y hy => ?_) x hx
      have := gd_kid h hy
      rwa [hk8, more8, Int.add_zero] at this
    ·simp at hx
theorem fitsL_gd : ∀ (ps : List Pat) {vs : List Tm} {d : Int}, (∀ (j : Nat) (y : Tm), vs[j]? = some y → gdT d y) → ∀ x ∈ (fitsL ps vs).1, gdT d x
 | [], vs, d, _, x, hx => by simp [fitsL] at hx
 | _ :: _, [], d, _, x, hx => by simp [fitsL] at hx
 | p :: ps, v :: vs, d, h, x, hx => by
  simp only [fitsL, fitAdd] at hx
  split at hx
  ·simp only [List.mem_append] at hx
   rcases hx with hx | hx
   ·exact fits_gd p (h 0 v rfl) x hx
   ·exact fitsL_gd ps (fun j y hy => h (j + 1) y (by simpa using hy)) x hx
  ·simp at hx
end
mutual
theorem fits_binds : ∀ (p : Pat) (v : Tm), (fitsM p v).2 = true → perr p = 0 → ((fitsM p v).1.length : Int) = bindsM p
 | .mk k n r ks, v, h, he => by
  simp only [perr] at he
  have hpe : patErr k n r ks.length = 0 := by split at he <;> assumption
  rw [if_pos hpe] at he
  simp only [fitsM] at h ⊢
  simp only [bindsM]
  split
  ·simp
  ·rename_i h1
   rw [if_neg h1] at h
   split
   ·rename_i h2
    have : ks = [] := by
     unfold patErr at hpe
     subst h2
     by_cases g0 : offM 2 1 3 = true
     ·rw [if_pos g0] at hpe; omega
     rw [if_neg g0] at hpe
     by_cases g1 : clashM ((2 : Int) == 2 || (2 : Int) == 3) ((2 : Int) == 3) false n r 0 = true
     ·rw [if_pos g1] at hpe; omega
     rw [if_neg g1] at hpe
     by_cases g2 : decide ((ks.length : Int) > (if (2 : Int) == 3 then 4 else 0)) = true
     ·rw [if_pos g2] at hpe; omega
     simp at g2
     exact g2
    subst this
    simp [bindsL]
   ·rename_i h2
    rw [if_neg h2] at h
    split
    ·rename_i h3
     rw [if_pos h3] at h
     split
     ·rename_i h4; rw [if_pos h4] at h; cases h
     ·rename_i h4; rw [if_neg h4] at h
      exact fitsL_binds ks v.kids h he
    ·rename_i h3; rw [if_neg h3] at h; cases h
theorem fitsL_binds : ∀ (ps : List Pat) (vs : List Tm), (fitsL ps vs).2 = true → perrL ps = 0 → ((fitsL ps vs).1.length : Int) = bindsL ps
 | [], _, _, _ => by simp [fitsL, bindsL]
 | _ :: _, [], h, _ => by simp [fitsL] at h
 | p :: ps, v :: vs, h, he => by
  simp only [perrL] at he
  have hp : perr p = 0 := by split at he <;> assumption
  rw [if_pos hp] at he
  simp only [fitsL, fitAdd] at h ⊢
  split
  ·rename_i hb
   simp only [Bool.and_eq_true] at hb
   have h1 := fits_binds p v hb.1 hp
   have h2 := fitsL_binds ps vs hb.2 he
   simp only [List.length_append, bindsL]
   omega
  ·rename_i hb; rw [if_neg hb] at h; cases h
end
end Go.Proofs.YtkcgkignhpepkaaGreatDoor

/- The reference: the next step. -/
namespace Go.Proofs.YtkcgkignhpepkaaGreatDoor
open Go Hs
variable {G : List (Nat × TypeId × Pu)}
theorem place_zero : ∀ (N : Nat) (t : Tm), tsize t ≤ N → ∀ i (hi : i < (placeM t).length), (walkM t ((placeM t).take i)).kind = 12 → (placeM t)[i] = 0
 | 0, t, h, _, _, _ => by have := tsize_pos t; omega
 | N + 1, .mk k n r ks cs, h, i, hi, hk => by
  have hpw := place_work k n r ks cs
  cases hw : workI k ks with
  | none => rw [hw] at hpw; simp only at hpw; rw [hpw] at hi; simp at hi
  | some j =>
   obtain ⟨hj1, x, hx, hxv⟩ := workI_some hw
   rw [hw] at hpw
   simp only [hx] at hpw
   generalize placeM (.mk k n r ks cs) = p at hpw hi hk
   subst hpw
   have hxs := tsize_mem (List.mem_of_getElem? hx)
   simp only [tsize] at h
   cases i with
   | zero =>
    simp only [List.take_zero, walkM, Tm.kind] at hk
    subst hk
    have : manyM 12 ks.length = 1 := by simp [manyM]
    simp; omega
   | succ i =>
    simp only [List.take_succ_cons, walkM, Tm.kids, hx] at hk
    simp only [List.getElem_cons_succ]
    exact place_zero N x (by omega) i (by simpa using hi) hk
theorem match_none {v : Tm} : ∀ {cs : List Cs} {o : Nat}, fitI v cs o = none → matchM cs v = noneM
 | [], _, _ => rfl
 | .mk q b :: cs, o, h => by
  simp only [fitI] at h
  split at h
  ·cases h
  ·rename_i hf
   simp only [matchM, if_neg hf]
   exact match_none h
theorem match_gd {v : Tm} (hv : gdT 0 v) : ∀ {cs : List Cs} {o : Nat}, gdC 0 cs → tsize v + 2 * csizeL cs ≤ 2^50 → (fitI v cs o).isSome = true → gdT 0 (matchM cs v)
 | [], _, _, _, h => by simp [fitI] at h
 | .mk q b :: cs, o, hc, hz, h => by
  simp only [csizeL, csize] at hz
  simp only [fitI] at h
  simp only [matchM]
  split
  ·rename_i hf
   have hl := fits_binds q v hf hc.1.1
   have hb := fits_b q v
   refine put_gd _ (fits_gd q hv) b 0 (Int.le_refl _) (by omega) ?_;rw [hl];exact hc.1.2
  ·rename_i hf
   rw [if_neg hf] at h
   exact match_gd hv hc.2 (by omega) h
theorem match_kind {v : Tm} (hv : gdT 0 v) {cs : List Cs} (hc : gdC 0 cs) (hz : tsize v + 2 * csizeL cs ≤ 2^50) : ((matchM cs v).kind != 0) = (fitI v cs 0).isSome := by
 cases h : fitI v cs 0 with
 | none => rw [match_none h]; rfl
 | some x =>
  have := match_gd hv hc hz (by rw [h]; rfl)
  generalize matchM cs v = m at this
  obtain ⟨k, n, r, ks, cs'⟩ := m
  have h1 := this.1
  simp [Tm.kind]; omega
theorem bod_mem {s : List Int} : ∀ {ts : List KT}, (bodM s ts).isSome = true ↔ s ∈ ts.map (·.1)
 | [] => by simp [bodM]
 | x :: ts => by
  have ih := bod_mem (s := s) (ts := ts)
  simp only [bodM, List.map_cons, List.mem_cons]
  split
  ·rename_i h; simp [h]
  ·rename_i h; rw [ih]; simp [h]
theorem bod_fnd {s : List Int} {ts : List KT} : (bodM s ts).isSome = decide (0 ≤ fndM s ts) := by
 rw [Bool.eq_iff_iff, bod_mem, decide_eq_true_eq, fnd_mem]
theorem gd_walk : ∀ {p : List Nat} {t : Tm}, gdT 0 t → (∀ i (_ : i < p.length), moreM (walkM t (p.take i)).kind ((p[i]'(by assumption) : Nat) : Int) = 0) → gdT 0 (walkM t p)
 | [], t, h, _ => h
 | j :: p, t, h, hm => by
  simp only [walkM]
  split
  ·rename_i x hx
   have h0 := hm 0 (by simp)
   simp only [List.take_zero, walkM, List.getElem_cons_zero] at h0
   have hg := gd_kid h hx
   rw [h0, Int.add_zero] at hg
   refine gd_walk hg fun i hi => ?_
   have := hm (i + 1) (by simpa using hi)
   simpa only [List.take_succ_cons, walkM, hx, List.getElem_cons_succ] using this
  ·exact h
theorem place_more : ∀ (N : Nat) (t : Tm), tsize t ≤ N → ∀ i (hi : i < (placeM t).length), moreM (walkM t ((placeM t).take i)).kind (((placeM t)[i] : Nat) : Int) = 0
 | 0, t, h, _, _ => by have := tsize_pos t; omega
 | N + 1, .mk k n r ks cs, h, i, hi => by
  have hpw := place_work k n r ks cs
  cases hw : workI k ks with
  | none => rw [hw] at hpw; simp only at hpw; rw [hpw] at hi; simp at hi
  | some j =>
   obtain ⟨hj1, x, hx, hxv⟩ := workI_some hw
   rw [hw] at hpw
   simp only [hx] at hpw
   generalize placeM (.mk k n r ks cs) = p at hpw hi
   subst hpw
   have hxs := tsize_mem (List.mem_of_getElem? hx)
   simp only [tsize] at h
   cases i with
   | zero =>
    simp only [List.take_zero, walkM, Tm.kind, List.getElem_cons_zero]
    unfold manyM at hj1
    unfold moreM
    split at hj1
    ·rw [if_neg (by omega), if_neg (by omega)]
    ·split at hj1
     ·rw [if_neg (by omega), if_neg (by omega)]
     ·omega
   | succ i =>
    simp only [List.take_succ_cons, walkM, Tm.kids, hx, List.getElem_cons_succ]
    exact place_more N x (by omega) i (by simpa using hi)
theorem gd_place {t : Tm} (h : gdT 0 t) : gdT 0 (walkM t (placeM t)) := gd_walk h fun i hi => place_more _ t (Nat.le_refl _) i hi
abbrev rnextV (x : Int × List Nat) : PV := .tup [iv .i64 x.1, .pu (.sl 0 3 (pathL x.2))]
def rnextM (ts : List KT) (t : Tm) : Int × List Nat := if valM t then (0, []) else (kindM ts t (placeM t), placeM t)
set_option maxHeartbeats 4000000 in
theorem rnext_c (a b : Pu) (ts : List KT) (hts : ts.length < 2^40) (t : Tm) (hg : gdT 0 t) (hN : tsize t < 2^28) : FCall Tryz.prog G 17 [.pu (wdP a b ts), .pu (tmc 0 t)] (rnextV (rnextM ts t)) := by
 have hsh := gd_sh hg
 have hok := place_ok hsh
 have hpl := place_len t
 have hwl := way_len hok
 have hgw := gd_place hg
 have hwsz := walk_size (t := t) (p := placeM t)
 have hac := rat_c (G := G) t (placeM t) hok (by omega)
 have hhc := rhandler_c (G := G) t (placeM t) hok (by omega) (place_zero _ t (Nat.le_refl _))
 have hhl := hand_lt (wayM t (placeM t)) (walkM t (placeM t)).ref (placeM t).length
 have hkM : ∀ w, walkM t (placeM t) = w → kindM ts t (placeM t) = kindW ts (wayM t (placeM t)) (placeM t).length w := fun w e => by unfold kindM; rw [e]
 refine FCall.of_tri tbl 104 Tryz.func17 rfl rfl rfl fun w0 M ρ0 D0 => ?_
 refine yR ?_;refine s_box SS 2 ?_;refine s_box SS 3 ?_;refine yB ?_;refine yB ?_;refine e_seqN [2, 3] ?_;refine yR ?_;refine yL ?_;refine s_val (v_callD (fun _ => rvalue_c _ t (Nat.le_refl _) (by omega))) ?_;refine e_seq ?_;refine tQ ?_;refine Tri.cond rfl (fun h0 => ?_) (fun h0 => ?_)
 ·skip
  have hfin : rnextM ts t = (0, []) := by simp [rnextM, h0]
  refine yR ?_;refine yB ?_;refine yB ?_;refine e_seq ?_;refine tQ ?_;exact Tri.ret ⟨.inr rfl, ret2 rfl resV_tmp ((by rw [hfin]; exact VImp.refl _)) resV_tmp ((by rw [hfin]; exact ToPu.imp (by repeat constructor)))⟩
 ·skip
  have hfin : rnextM ts t = (kindM ts t (placeM t), placeM t) := by simp [rnextM, h0]
  have hpc := rplace_c (G := G) t hsh (by omega)
  generalize hp : placeM t = p at *
  generalize hw : walkM t p = w at *
  obtain ⟨k, n, r, ks, cs⟩ := w
  have hkM := hkM _ rfl
  simp only [Tm.ref] at hhc hhl
  obtain ⟨hg1, hg2, hg3, hg4, hg5, hg6⟩ := hgw
  simp only [tsize] at hwsz
  have hlen := length_tsizeL ks
  obtain ⟨x0, hx0⟩ : ∃ x, x = ks.getD 0 noneM := ⟨_, rfl⟩
  obtain ⟨x1, hx1⟩ : ∃ x, x = ks.getD 1 noneM := ⟨_, rfl⟩
  have g0 : 0 < ks.length → (tmsc 0 ks)[0]? = some (tmc 0 x0) := fun h => by rw [tms_get h, hx0]; simp [List.getD_eq_getElem?_getD, h]
  have g1 : 1 < ks.length → (tmsc 0 ks)[1]? = some (tmc 0 x1) := fun h => by rw [tms_get h, hx1]; simp [List.getD_eq_getElem?_getD, h]
  have e0 : ∀ h : 0 < ks.length, ks[0] = x0 := fun h => by rw [hx0]; simp [List.getD_eq_getElem?_getD, h]
  have e1 : ∀ h : 1 < ks.length, ks[1] = x1 := fun h => by rw [hx1]; simp [List.getD_eq_getElem?_getD, h]
  clear hx0 hx1
  obtain ⟨x0k, x0n, x0r, x0ks, x0cs⟩ := x0
  obtain ⟨x1k, x1n, x1r, x1ks, x1cs⟩ := x1
  refine Tri.skip ?_;refine yR ?_;refine yL ?_;refine s_val (v_callD (fun _ => hpc)) ?_;refine yA ?_;refine e_seq ?_;refine yR ?_;refine yL ?_;refine yM ?_;refine s_val (v_callD (fun _ => hac)) ?_;refine s_alloc SS 7 ?_;refine yS ?_;refine e_seqN [7] ?_;refine yR ?_;refine yB ?_;refine e_seq ?_;refine tQ ?_;refine Tri.block ?_;refine yR ?_;refine yF ?_;refine yL ?_;refine yI ?_;refine yM ?_;refine xF ?_;refine xL ?_
  refine s_gg zG (v_indexG SS (i := 0) (tmc 0 (.mk x0k x0n x0r x0ks x0cs)) (fun e => ⟨by omega, by simpa using g0 (by simp only [beq_iff_eq] at e; subst e; simp [kidsM] at hg2; omega)⟩)) ?_;refine xF ?_;refine xL ?_;refine xI ?_;refine yN ?_;refine yA ?_;refine e_seq ?_;refine tQ ?_;refine Tri.cond rfl (fun h1 => ?_) (fun h1 => ?_)
  ·skip
   simp only [Bool.and_eq_true, beq_iff_eq] at h1
   have hl : 0 < ks.length := by rw [h1.1] at hg2; simp [kidsM] at hg2; omega
   have hsp : kindW ts (wayM t p) p.length (.mk k n r ks cs) = 1 := by simp only [kindW, h1.1, if_true, List.getElem?_eq_getElem hl, e0 hl, Tm.kind, h1.2] <;> rfl
   refine yR ?_;refine yB ?_;refine e_seq ?_;refine yR ?_;refine yM ?_;refine yM ?_;refine yA ?_;refine yA ?_;refine e_seq ?_;refine tQ ?_;exact Tri.ret ⟨.inr rfl, ret2 rfl resV_tmp (iv_imp (by first | (rw [hfin, hkM, hsp]; done) | (rw [hfin, hkM, hsp]; rfl))) resV_tmp ((by rw [hfin]; exact VImp.refl _))⟩
  ·skip
   refine yR ?_;refine yF ?_;refine yL ?_;refine yI ?_;refine yA ?_;refine e_seq ?_;refine tQ ?_;refine Tri.cond rfl (fun h2 => ?_) (fun h2 => ?_)
   ·skip
    have hsp : kindW ts (wayM t p) p.length (.mk k n r ks cs) = 2 := by simp only [beq_iff_eq] at h2; subst h2; rfl
    refine yR ?_;refine yB ?_;refine e_seq ?_;refine yR ?_;refine yM ?_;refine yM ?_;refine yA ?_;refine yA ?_;refine e_seq ?_;refine tQ ?_;exact Tri.ret ⟨.inr rfl, ret2 rfl resV_tmp (iv_imp (by first | (rw [hfin, hkM, hsp]; done) | (rw [hfin, hkM, hsp]; rfl))) resV_tmp ((by rw [hfin]; exact VImp.refl _))⟩
   ·skip
    refine yR ?_;refine yF ?_;refine yL ?_;refine yI ?_;refine yM ?_;refine xF ?_;refine xL ?_;refine xF ?_;refine xL ?_;refine s_gg zG (v_callD (fun _ => rfind_c ts r hts)) ?_;refine xI ?_;refine yN ?_;refine yA ?_;refine e_seq ?_;refine tQ ?_;refine Tri.cond rfl (fun h3 => ?_) (fun h3 => ?_)
    ·skip
     simp only [Bool.and_eq_true, beq_iff_eq] at h3
     have hsp : kindW ts (wayM t p) p.length (.mk k n r ks cs) = 3 := by simp only [kindW, h3.1]; rw [bod_fnd, show decide (0 ≤ fndM r ts) = true from by simpa using h3.2]; rfl
     refine yR ?_;refine yB ?_;refine e_seq ?_;refine yR ?_;refine yM ?_;refine yM ?_;refine yA ?_;refine yA ?_;refine e_seq ?_;refine tQ ?_;exact Tri.ret ⟨.inr rfl, ret2 rfl resV_tmp (iv_imp (by first | (rw [hfin, hkM, hsp]; done) | (rw [hfin, hkM, hsp]; rfl))) resV_tmp ((by rw [hfin]; exact VImp.refl _))⟩
    ·skip
     refine yR ?_;refine yF ?_;refine yL ?_;refine yI ?_;refine yM ?_;refine xF ?_;refine xL ?_;refine s_gg zG (v_indexG SS (i := 0) (tmc 0 (.mk x0k x0n x0r x0ks x0cs)) (fun e => ⟨by omega, by simpa using g0 (by simp only [beq_iff_eq] at e; subst e; simp [kidsM] at hg2; omega)⟩)) ?_;refine xF ?_;refine xL ?_;refine xI ?_;refine yN ?_;refine yM ?_;refine xF ?_;refine xL ?_;refine s_gg zG (v_indexG SS (i := 1) (tmc 0 (.mk x1k x1n x1r x1ks x1cs)) (fun e => ⟨by omega, by simpa using g1 (by simp only [Bool.and_eq_true, beq_iff_eq] at e; obtain ⟨e, _⟩ := e; subst e; simp [kidsM] at hg2; omega)⟩)) ?_
     refine xF ?_;refine xL ?_;refine xI ?_;refine yN ?_;refine yA ?_;refine e_seq ?_;refine tQ ?_;refine Tri.cond rfl (fun h4 => ?_) (fun h4 => ?_)
     ·skip
      simp only [Bool.and_eq_true, beq_iff_eq] at h4
      have hl : ks.length = 2 := by rw [h4.1.1] at hg2; simp [kidsM] at hg2; omega
      have hsp : kindW ts (wayM t p) p.length (.mk k n r ks cs) = 4 := by
       obtain ⟨y0, y1, rfl⟩ : ∃ y0 y1, ks = [y0, y1] := list2 hl
       have q0 := e0 (by simp)
       have q1 := e1 (by simp)
       simp only [List.getElem_cons_zero, List.getElem_cons_succ] at q0 q1
       subst q0 q1
       simp [kindW, h4.1.1, Tm.kind, h4.1.2, h4.2]
      refine yR ?_;refine yB ?_;refine e_seq ?_;refine yR ?_;refine yM ?_;refine yM ?_;refine yA ?_;refine yA ?_;refine e_seq ?_;refine tQ ?_;exact Tri.ret ⟨.inr rfl, ret2 rfl resV_tmp (iv_imp (by first | (rw [hfin, hkM, hsp]; done) | (rw [hfin, hkM, hsp]; rfl))) resV_tmp ((by rw [hfin]; exact VImp.refl _))⟩
     ·skip
      refine yR ?_;refine yF ?_;refine yL ?_;refine yI ?_;refine yA ?_;refine e_seq ?_;refine tQ ?_;refine Tri.cond rfl (fun h5 => ?_) (fun h5 => ?_)
      ·skip
       have hk9 : k = 9 := by simpa using h5
       have hl : ks.length = 1 := by rw [hk9] at hg2; simp [kidsM] at hg2; omega
       obtain ⟨v, rfl⟩ : ∃ v, ks = [v] := List.length_eq_one_iff.1 hl
       have hvg : gdT 0 v := by have := hg5.1; rw [hk9, show moreM 9 ((0 : Nat) : Int) = 0 from by simp [moreM]] at this; simpa using this
       have hmk := match_kind hvg hg6 (by simp only [tsizeL] at hwsz; omega)
       have hsp : kindW ts (wayM t p) p.length (.mk k n r [v] cs) = cond (fitI v cs 0).isSome 5 8 := by rw [← hmk]; subst hk9; rfl
       refine yR ?_;refine yL ?_;refine s_val (v_callD (fun _ => rfitting_c k n r v [] cs (by simp only [tsize]; omega))) ?_;refine yM ?_;refine yX ?_;refine yX ?_;refine yA ?_;refine yA ?_;refine e_seq ?_;refine yR ?_;refine yM ?_;refine yI ?_;refine e_seq ?_;refine tQ ?_;refine Tri.cond rfl (fun h6 => ?_) (fun h6 => ?_)
       ·skip
        have hso : (fitI v cs 0).isSome = true := by cases hf : fitI v cs 0 with
         | none => rw [hf] at h6; simp at h6
         | some x => rfl
        rw [hso] at hsp
        refine yR ?_;refine yB ?_;refine e_seq ?_;refine yR ?_;refine yM ?_;refine yM ?_;refine yA ?_;refine yA ?_;refine e_seq ?_;refine tQ ?_;exact Tri.ret ⟨.inr rfl, ret2 rfl resV_tmp (iv_imp (by first | (rw [hfin, hkM, hsp]; done) | (rw [hfin, hkM, hsp]; rfl))) resV_tmp ((by rw [hfin]; exact VImp.refl _))⟩
       ·skip
        have hso : (fitI v cs 0).isSome = false := by cases hf : fitI v cs 0 with
         | none => rfl
         | some x => rw [hf] at h6; simp at h6
        rw [hso] at hsp
        refine Tri.skip ?_;refine yR ?_;refine yM ?_;refine yM ?_;refine yA ?_;refine yA ?_;refine e_seq ?_;refine tQ ?_;exact Tri.ret ⟨.inr rfl, ret2 rfl resV_tmp (iv_imp (by first | (rw [hfin, hkM, hsp]; done) | (rw [hfin, hkM, hsp]; rfl))) resV_tmp ((by rw [hfin]; exact VImp.refl _))⟩
      ·skip
       refine yR ?_;refine yF ?_;refine yL ?_;refine yI ?_;refine yA ?_;refine e_seq ?_;refine tQ ?_;refine Tri.cond rfl (fun h7 => ?_) (fun h7 => ?_)
       ·skip
        have hk11 : k = 11 := by simpa using h7
        have hnum := hg3 hk11
        have hsp : kindW ts (wayM t p) p.length (.mk k n r ks cs) = (if handM (wayM t p) r p.length < 0 then 9 else match (wayM t p)[(handM (wayM t p) r p.length).toNat]? with | some h => cond (decide ((h.kids.length : Int) > 2 + n)) 6 8 | none => 8) := by subst hk11; rfl
        refine yR ?_;refine yL ?_;refine yM ?_;refine s_val (v_callD (fun _ => hhc)) ?_;refine yA ?_;refine e_seq ?_;refine yR ?_;refine yM ?_;refine yI ?_;refine e_seq ?_;refine tQ ?_;refine Tri.cond rfl (fun h8 => ?_) (fun h8 => ?_)
        ·skip
         rw [if_pos (by simpa using h8)] at hsp
         refine yR ?_;refine yB ?_;refine e_seq ?_;refine yR ?_;refine yM ?_;refine yM ?_;refine yA ?_;refine yA ?_;refine e_seq ?_;refine tQ ?_;exact Tri.ret ⟨.inr rfl, ret2 rfl resV_tmp (iv_imp (by first | (rw [hfin, hkM, hsp]; done) | (rw [hfin, hkM, hsp]; rfl))) resV_tmp ((by rw [hfin]; exact VImp.refl _))⟩
        ·skip
         have hnn : ¬ handM (wayM t p) r p.length < 0 := by simpa using h8
         rw [if_neg hnn] at hsp
         obtain ⟨m, hm⟩ : ∃ m : Nat, handM (wayM t p) r p.length = (m : Int) := ⟨(handM (wayM t p) r p.length).toNat, by omega⟩
         rw [hm] at hsp hhl ⊢
         have hmp : m < p.length := by omega
         have hwg := way_get hok (show m ≤ p.length by omega)
         simp only [Int.toNat_natCast, hwg] at hsp
         have hatm := rat_c (G := G) t (p.take m) (walk_take_ok m hok) (by rw [List.length_take]; omega)
         rw [← pathL_take] at hatm
         generalize walkM t (p.take m) = x at hsp hatm
         obtain ⟨xk, xn, xr, xks, xcs⟩ := x
         simp only [Tm.kids] at hsp
         refine yR ?_;refine yF ?_;refine yL ?_;refine yI ?_;refine yL ?_;refine yM ?_;refine yM ?_;refine s_val (v_sliceTo SS (ps := pathL p) (r := m) (by rw [path_len]; omega)) ?_;refine s_val (v_callD (fun _ => hatm)) ?_;refine s_val (v_getField SS (ht := TyV.ok)) ?_;refine yC ?_;refine yI ?_;refine e_draw ?_;refine tQ ?_;refine Tri.cond rfl (fun h9 => ?_) (fun h9 => ?_)
         ·skip
          rw [tms_length, wrap64 (by omega) (by omega)] at h9
          replace hsp := hsp.trans (show _ = (6 : Int) from by have h : 2 + n < (xks.length : Int) := (by have := of_decide_eq_true h9; omega); simp [h])
          refine yR ?_;refine yB ?_;refine e_seq ?_;refine yR ?_;refine yM ?_;refine yM ?_;refine yA ?_;refine yA ?_;refine e_seq ?_;refine tQ ?_;exact Tri.ret ⟨.inr rfl, ret2 rfl resV_tmp (iv_imp (by first | (rw [hfin, hkM, hsp]; done) | (rw [hfin, hkM, hsp]; rfl))) resV_tmp ((by rw [hfin]; exact VImp.refl _))⟩
         ·skip
          rw [tms_length, wrap64 (by omega) (by omega)] at h9
          replace hsp := hsp.trans (show _ = (8 : Int) from by have h : ¬ 2 + n < (xks.length : Int) := (by have := of_decide_eq_false h9; omega); simp [h])
          refine Tri.skip ?_;refine yR ?_;refine yM ?_;refine yM ?_;refine yA ?_;refine yA ?_;refine e_seq ?_;refine tQ ?_;exact Tri.ret ⟨.inr rfl, ret2 rfl resV_tmp (iv_imp (by first | (rw [hfin, hkM, hsp]; done) | (rw [hfin, hkM, hsp]; rfl))) resV_tmp ((by rw [hfin]; exact VImp.refl _))⟩
       ·skip
        refine yR ?_;refine yF ?_;refine yL ?_;refine yI ?_;refine yA ?_;refine e_seq ?_;refine tQ ?_;refine Tri.cond rfl (fun h10 => ?_) (fun h10 => ?_)
        ·skip
         have hsp : kindW ts (wayM t p) p.length (.mk k n r ks cs) = 7 := by simp only [beq_iff_eq] at h10; subst h10; rfl
         refine yR ?_;refine yB ?_;refine e_seq ?_;refine yR ?_;refine yM ?_;refine yM ?_;refine yA ?_;refine yA ?_;refine e_seq ?_;refine tQ ?_;exact Tri.ret ⟨.inr rfl, ret2 rfl resV_tmp (iv_imp (by first | (rw [hfin, hkM, hsp]; done) | (rw [hfin, hkM, hsp]; rfl))) resV_tmp ((by rw [hfin]; exact VImp.refl _))⟩
        ·skip
         have hsp : kindW ts (wayM t p) p.length (.mk k n r ks cs) = 8 := by
          simp only [beq_eq_false_iff_ne, ne_eq, Bool.and_eq_false_iff, decide_eq_false_iff_not] at h1 h2 h3 h4 h5 h7 h10
          simp only [kindW]
          by_cases k4 : k = 4
          ·have hl : 0 < ks.length := by rw [k4] at hg2; simp [kidsM] at hg2; omega
           rw [if_pos k4, List.getElem?_eq_getElem hl, e0 hl]
           have : ¬ x0k = 3 := h1.elim (fun h => absurd k4 h) id
           simp only [Tm.kind, show (x0k == 3) = false from by simpa using this, cond_false]
          rw [if_neg k4, if_neg h2]
          by_cases k6 : k = 6
          ·rw [if_pos k6, bod_fnd]
           have : ¬ fndM r ts ≥ 0 := h3.elim (fun h => absurd k6 h) id
           rw [show decide (0 ≤ fndM r ts) = false from by simp; omega]; rfl
          rw [if_neg k6]
          by_cases k10 : k = 10
          ·have hl : ks.length = 2 := by rw [k10] at hg2; simp [kidsM] at hg2; omega
           obtain ⟨y0, y1, rfl⟩ : ∃ y0 y1, ks = [y0, y1] := list2 hl
           have q0 := e0 (by simp)
           have q1 := e1 (by simp)
           simp only [List.getElem_cons_zero, List.getElem_cons_succ] at q0 q1
           subst q0 q1;rw [if_pos k10]
           have : ¬ (x0k = 2 ∧ x1k = 2) := fun ⟨a, b⟩ => h4.elim (fun h => h.elim (fun h => h k10) fun h => h a) fun h => h b
           have h5 : ([Tm.mk x0k x0n x0r x0ks x0cs, .mk x1k x1n x1r x1ks x1cs].all fun x => x.kind == 2) = false := by
            simp only [List.all_cons, List.all_nil, Bool.and_true, Tm.kind]
            rw [Bool.eq_false_iff]; simpa using this
           rw [h5]; rfl
          rw [if_neg k10, if_neg h5, if_neg h7, if_neg h10]
         refine Tri.skip ?_;refine yR ?_;refine yM ?_;refine yM ?_;refine yA ?_;refine yA ?_;refine e_seq ?_;refine tQ ?_;exact Tri.ret ⟨.inr rfl, ret2 rfl resV_tmp (iv_imp (by first | (rw [hfin, hkM, hsp]; done) | (rw [hfin, hkM, hsp]; rfl))) resV_tmp ((by rw [hfin]; exact VImp.refl _))⟩
end Go.Proofs.YtkcgkignhpepkaaGreatDoor

/- Whether a term is more than is looked at. -/
namespace Go.Proofs.YtkcgkignhpepkaaGreatDoor
open Go Hs
variable {G : List (Nat × TypeId × Pu)}
abbrev gcO (c : Int) : List (Nat × Ob) := [(3, .var 3 (iv .i64 c))]
abbrev gpV : PV := .fn (.func 119) [] [.ptr 3 [] 3, .ptr 4 [] 185]
abbrev gtV : PV := .fn (.func 121) [] [.ptr 3 [] 3, .ptr 5 [] 45, .ptr 4 [] 185]
abbrev gcV : PV := .fn (.func 124) [] [.ptr 4 [] 185, .ptr 5 [] 45]
abbrev gpO : List (Nat × Ob) := [(4, .var 185 gpV)]
abbrev gtO : List (Nat × Ob) := [(4, .var 185 gpV), (5, .var 45 gtV)]
abbrev MD : Int := 1152921504606846976
theorem gp_c : ∀ (N : Nat) (p : Pat), psize p ≤ N → N < 2^40 → ∀ (d c : Int), 0 ≤ c ∧ c ≤ 400 → 0 ≤ d ∧ d + N ≤ 2^50 →
  HCall Tryz.prog G 119 [.pu (patc 0 p), .ptr 3 [] 3, .ptr 4 [] 185] gpO (gcO c) (bv (longP 400 MD d c p).1) (gcO (longP 400 MD d c p).2) [] := by
 intro N
 induction N with
 | zero => intro p h; cases p; simp [psize] at h
 | succ N ih =>
 intro p hp hN d c hc hd
 obtain ⟨k, n, r, ks⟩ := p
 simp only [psize] at hp
 have hlen := length_psizeL ks
 have key : c + 1 ≤ 400 → ∃ r, r.isSome = (longPs 400 MD (d + 1) (c + 1) ks).1 ∧ AnyC Tryz.prog G 119 [] [.ptr 3 [] 3, .ptr 4 [] 185] gpO (patsc 0 ks) (gcO (c + 1)) r (gcO (longPs 400 MD (d + 1) (c + 1) ks).2) := fun hc' => by
  rw [longPs_eq, pats_eq];refine AnyC.state (patc 0) (longP 400 MD (d + 1)) gcO (fun c => 0 ≤ c ∧ c ≤ 400) (fun _ => rfl) ks (fun a ha c hc => ?_) (c + 1) ⟨by omega, hc'⟩
  have hb := longP_b (mn := 400) (md := MD) a (d + 1) c hc.2
  exact ⟨ih a (by have := psize_mem ha; omega) (by omega) (d + 1) c hc (by omega), fun e => ⟨by have := hb.1; omega, hb.2.2 e⟩⟩
 refine HCall.of_triD tbl 15 [3, 4] Tryz.func119 rfl rfl rfl fun w0 M ρ0 D0 => ?_
 by_cases hcut : 400 < c + 1
 ·have e : longP 400 MD d c (.mk k n r ks) = (true, c + 1) := by simp only [longP]; rw [if_pos (.inl hcut)]
  rw [e, ← wrap64 (n := c + 1) (by omega) (by omega)]
  have hb0 : decide (IntKind.i64.wrap (c + 1) > 400) = true := by rw [wrap64 (by omega) (by omega)]; simp; omega
  refine yR ?_;refine s_box SS 31 ?_;refine yB ?_;refine e_seqN [31] ?_;refine yR ?_;refine yL ?_;refine yI ?_;refine yS ?_;refine e_seq ?_;refine yR ?_;refine yL ?_;refine yI ?_;refine yM ?_;refine xF ?_;refine xL ?_;refine xL ?_;refine s_callG zG (f := 120) (args := [.pu (.sl 0 104 (patsc 0 ks)), gpV]) (HR := []) (H := []) (H' := []) (v := bv false) (fun e => by simp [hb0] at e) (fun _ => .nil) ?_;refine yO ?_;refine yA ?_;refine e_seq ?_;refine tQ ?_
  exact Tri.ret ⟨.inr rfl, ret1 rfl resV_tmp (bv_imp (by rw [hb0]; rfl)), by repeat (first | exact OutH.nil | refine OutH.cons rfl (by first | exact ObImp.refl _ | exact OWk.imp (by repeat constructor)) ?_)⟩
 ·obtain ⟨r1, hr1, hA⟩ := key (by omega)
  have e : longP 400 MD d c (.mk k n r ks) = longPs 400 MD (d + 1) (c + 1) ks := by simp only [longP]; rw [if_neg (by simp only [MD]; omega)]
  have hb0 : decide (IntKind.i64.wrap (c + 1) > 400) = false := by rw [wrap64 (by omega) (by omega)]; simp; omega
  rw [e]
  generalize longPs 400 MD (d + 1) (c + 1) ks = q1 at hr1 hA ⊢
  obtain ⟨b1, c1⟩ := q1
  simp only at hr1 hA ⊢
  rw [← wrap64 (n := c + 1) (by omega) (by omega)] at hA
  refine yR ?_;refine s_box SS 31 ?_;refine yB ?_;refine e_seqN [31] ?_;refine yR ?_;refine yL ?_;refine yI ?_;refine yS ?_;refine e_seq ?_;refine yR ?_;refine yL ?_;refine yI ?_;refine yM ?_;refine xF ?_;refine xL ?_;refine xL ?_;refine s_callG zG (f := 120) (args := [.pu (.sl 0 104 (patsc 0 ks)), gpV]) (HR := gpO) (H := gcO (IntKind.i64.wrap (c + 1))) (H' := gcO c1) (v := bv b1) (fun _ => hr1 ▸ conPat_d (lo := 0) gpV (by rw [pats_length]; omega) hA) (fun e => by simp [hb0] at e) ?_;refine yO ?_;refine yA ?_;refine e_seq ?_;refine tQ ?_
  exact Tri.ret ⟨.inr rfl, ret1 rfl resV_tmp (bv_imp (by rw [hb0]; rfl)), by repeat (first | exact OutH.nil | refine OutH.cons rfl (by first | exact ObImp.refl _ | exact OWk.imp (by repeat constructor)) ?_)⟩
theorem gc_c (p : Pat) (t : Tm) (d c : Int) (hc : 0 ≤ c ∧ c ≤ 400) (hd : 0 ≤ d ∧ d + psize p ≤ 2^50) (hpz : psize p < 2^40)
  (h2 : (longP 400 MD d c p).1 = false → HCall Tryz.prog G 121 [.pu (tmc 0 t), .ptr 3 [] 3, .ptr 5 [] 45, .ptr 4 [] 185] gtO (gcO (longP 400 MD d c p).2) (bv (longT 400 MD d (longP 400 MD d c p).2 t).1) (gcO (longT 400 MD d (longP 400 MD d c p).2 t).2) []) :
  HCall Tryz.prog G 124 [.pu (csec 0 (.mk p t)), .ptr 4 [] 185, .ptr 5 [] 45] gtO (gcO c) (bv (longC 400 MD d c (.mk p t)).1) (gcO (longC 400 MD d c (.mk p t)).2) [] := by
 have h := gp_c (G := G) _ p (Nat.le_refl _) hpz d c hc hd
 rw [grC_parts]
 generalize hb1 : longP 400 MD d c p = r1 at h h2 ⊢
 obtain ⟨b1, c1⟩ := r1
 simp only at h h2 ⊢
 refine HCall.of_triD tbl 15 [3, 4, 5] Tryz.func124 rfl rfl rfl fun w0 M ρ0 D0 => ?_
 refine yR ?_;refine s_box SS 31 ?_;refine yB ?_;refine e_seqN [31] ?_;refine yR ?_;refine yL ?_;refine yF ?_;refine yL ?_;refine s_call (h) ?_;refine yM ?_;refine xL ?_;refine xF ?_;refine xL ?_;refine s_callG zG (f := 121) (args := [.pu (tmc 0 t), .ptr 3 [] 3, .ptr 5 [] 45, .ptr 4 [] 185]) (HR := gtO) (H := gcO c1) (H' := gcO (if b1 = true then c1 else (longT 400 MD d c1 t).2)) (v := bv (longT 400 MD d c1 t).1) (fun e => ?_) (fun e => ?_) ?_
 ·have e' : b1 = false := by simpa using e
  have := h2 e'
  simpa [e'] using this
 ·have e' : b1 = true := by simpa using e
  exact .cons rfl (by simp [e']) .nil
 refine yO ?_;refine yA ?_;refine e_seq ?_;refine tQ ?_;exact Tri.ret ⟨.inr rfl, ret1 rfl resV_tmp (VImp.refl _), by repeat (first | exact OutH.nil | refine OutH.cons rfl (by first | exact ObImp.refl _ | exact OWk.imp (by repeat constructor)) ?_)⟩
theorem gT_parts (d c k n : Int) (r : List Int) (ks : List Tm) (cs : List Cs) (h : ¬ (400 < c + 1 ∨ MD < d)) : longT 400 MD d c (.mk k n r ks cs) = ((longTs 400 MD (d + 1) (c + 1) ks).1 || (longCs 400 MD (d + 1) (longTs 400 MD (d + 1) (c + 1) ks).2 cs).1, if (longTs 400 MD (d + 1) (c + 1) ks).1 then (longTs 400 MD (d + 1) (c + 1) ks).2 else (longCs 400 MD (d + 1) (longTs 400 MD (d + 1) (c + 1) ks).2 cs).2) := by
 simp only [longT, if_neg h]
 rcases longTs 400 MD (d + 1) (c + 1) ks with ⟨b, c'⟩
 cases b <;> simp
set_option maxHeartbeats 1000000 in
theorem gt_c : ∀ (N : Nat) (t : Tm), tsize t ≤ N → N < 2^40 → ∀ (d c : Int), 0 ≤ c ∧ c ≤ 400 → 0 ≤ d ∧ d + N ≤ 2^50 →
  HCall Tryz.prog G 121 [.pu (tmc 0 t), .ptr 3 [] 3, .ptr 5 [] 45, .ptr 4 [] 185] gtO (gcO c) (bv (longT 400 MD d c t).1) (gcO (longT 400 MD d c t).2) [] := by
 intro N
 induction N with
 | zero => intro t h; have := tsize_pos t; omega
 | succ N ih =>
 intro t hp hN d c hc hd
 obtain ⟨k, n, r, ks, cs⟩ := t
 simp only [tsize] at hp
 have hlen := length_tsizeL ks
 have hlenc := length_csizeL cs
 have keyT : c + 1 ≤ 400 → ∃ r, r.isSome = (longTs 400 MD (d + 1) (c + 1) ks).1 ∧ AnyC Tryz.prog G 121 [] [.ptr 3 [] 3, .ptr 5 [] 45, .ptr 4 [] 185] gtO (tmsc 0 ks) (gcO (c + 1)) r (gcO (longTs 400 MD (d + 1) (c + 1) ks).2) := fun hc' => by
  rw [longTs_eq, tms_eq];refine AnyC.state (tmc 0) (longT 400 MD (d + 1)) gcO (fun c => 0 ≤ c ∧ c ≤ 400) (fun _ => rfl) ks (fun a ha c hc => ?_) (c + 1) ⟨by omega, hc'⟩
  have hb := longT_b (mn := 400) (md := MD) a (d + 1) c hc.2
  exact ⟨ih a (by have := tsize_mem ha; omega) (by omega) (d + 1) c hc (by omega), fun e => ⟨by have := hb.1; omega, hb.2.2 e⟩⟩
 have keyC : ∀ c1, 0 ≤ c1 ∧ c1 ≤ 400 → ∃ r, r.isSome = (longCs 400 MD (d + 1) c1 cs).1 ∧ AnyC Tryz.prog G 124 [] [.ptr 4 [] 185, .ptr 5 [] 45] gtO (cssc 0 cs) (gcO c1) r (gcO (longCs 400 MD (d + 1) c1 cs).2) := fun c1 hc1 => by
  rw [longCs_eq, css_eq];refine AnyC.state (csec 0) (longC 400 MD (d + 1)) gcO (fun c => 0 ≤ c ∧ c ≤ 400) (fun _ => rfl) cs (fun a ha c hc => ?_) c1 hc1
  have hb := longC_b (mn := 400) (md := MD) a (d + 1) c hc.2
  have hsz := csize_mem ha
  obtain ⟨q, b⟩ := a
  simp only [csize] at hsz
  have hp1 := longP_b (mn := 400) (md := MD) q (d + 1) c hc.2
  have htp := tsize_pos b
  have hqp := psize_pos q
  exact ⟨gc_c q b (d + 1) c hc (by omega) (by omega) (fun e => ih b (by omega) (by omega) (d + 1) _ ⟨by have := hp1.1; omega, hp1.2.2 e⟩ (by omega)), fun e => ⟨by have := hb.1; omega, hb.2.2 e⟩⟩
 refine HCall.of_triD tbl 22 [3, 4, 5] Tryz.func121 rfl rfl rfl fun w0 M ρ0 D0 => ?_
 by_cases hcut : 400 < c + 1
 ·have e : longT 400 MD d c (.mk k n r ks cs) = (true, c + 1) := by simp only [longT]; rw [if_pos (.inl hcut)]
  rw [e, ← wrap64 (n := c + 1) (by omega) (by omega)]
  have hb0 : decide (IntKind.i64.wrap (c + 1) > 400) = true := by rw [wrap64 (by omega) (by omega)]; simp; omega
  refine yR ?_;refine s_box SS 31 ?_;refine yB ?_;refine e_seqN [31] ?_;refine yR ?_;refine yL ?_;refine yI ?_;refine yS ?_;refine e_seq ?_;refine yR ?_;refine yL ?_;refine yI ?_;refine yM ?_;refine xF ?_;refine xL ?_;refine xL ?_;refine s_callG zG (f := 122) (args := [.pu (.sl 0 32 (tmsc 0 ks)), gtV]) (HR := []) (H := []) (H' := []) (v := bv false) (fun e => by simp [hb0] at e) (fun _ => .nil) ?_;refine yO ?_;refine yM ?_;refine xF ?_;refine xL ?_;refine s_gg zG (v_mkFnD SS) ?_
  refine s_callG zG (f := 123) (args := [.pu (.sl 0 106 (cssc 0 cs)), gcV]) (HR := []) (H := []) (H' := []) (v := bv false) (fun e => by simp [hb0] at e) (fun _ => .nil) ?_;refine yO ?_;refine yA ?_;refine e_seq ?_;refine tQ ?_;exact Tri.ret ⟨.inr rfl, ret1 rfl resV_tmp (bv_imp (by rw [hb0]; rfl)), by repeat (first | exact OutH.nil | refine OutH.cons rfl (by first | exact ObImp.refl _ | exact OWk.imp (by repeat constructor)) ?_)⟩
 ·obtain ⟨r1, hr1, hA⟩ := keyT (by omega)
  have hb1 := longTs_b (mn := 400) (md := MD) ks (d + 1) (c + 1) (by omega)
  have hb0 : decide (IntKind.i64.wrap (c + 1) > 400) = false := by rw [wrap64 (by omega) (by omega)]; simp; omega
  rw [gT_parts d c k n r ks cs (by simp only [MD]; omega)]
  generalize longTs 400 MD (d + 1) (c + 1) ks = q1 at hr1 hA hb1 ⊢
  obtain ⟨b1, c1⟩ := q1
  obtain ⟨hb1, _, hb2⟩ := hb1
  simp only at hr1 hA hb1 hb2 ⊢
  rw [← wrap64 (n := c + 1) (by omega) (by omega)] at hA
  have hC : b1 = false → ∃ r2 : Option Nat, r2.isSome = (longCs 400 MD (d + 1) c1 cs).1 ∧ _ := fun e => keyC c1 ⟨by omega, hb2 e⟩
  refine yR ?_;refine s_box SS 31 ?_;refine yB ?_;refine e_seqN [31] ?_;refine yR ?_;refine yL ?_;refine yI ?_;refine yS ?_;refine e_seq ?_;refine yR ?_;refine yL ?_;refine yI ?_;refine yM ?_;refine xF ?_;refine xL ?_;refine xL ?_;refine s_callG zG (f := 122) (args := [.pu (.sl 0 32 (tmsc 0 ks)), gtV]) (HR := gtO) (H := gcO (IntKind.i64.wrap (c + 1))) (H' := gcO c1) (v := bv b1) (fun _ => hr1 ▸ conTm_d (lo := 0) gtV (by rw [tms_length]; omega) hA) (fun e => by simp [hb0] at e) ?_;refine yO ?_;refine yM ?_;refine xF ?_;refine xL ?_;refine s_gg zG (v_mkFnD SS) ?_
  refine s_callG zG (f := 123) (args := [.pu (.sl 0 106 (cssc 0 cs)), gcV]) (HR := gtO) (H := gcO c1) (H' := gcO (if b1 = true then c1 else (longCs 400 MD (d + 1) c1 cs).2)) (v := bv (longCs 400 MD (d + 1) c1 cs).1) (fun e => ?_) (fun e => ?_) ?_
  ·have e' : b1 = false := by simpa [hb0] using e
   obtain ⟨r2, hr2, hA2⟩ := hC e'
   simp only [e', Bool.false_eq_true, if_false]
   exact hr2 ▸ conCs_d (lo := 0) gcV (by rw [css_length]; omega) hA2
  ·have e' : b1 = true := by simpa [hb0] using e
   exact .cons rfl (by simp [e']) .nil
  refine yO ?_;refine yA ?_;refine e_seq ?_;refine tQ ?_;exact Tri.ret ⟨.inr rfl, ret1 rfl resV_tmp (bv_imp (by rw [hb0]; rfl)), by repeat (first | exact OutH.nil | refine OutH.cons rfl (by first | exact ObImp.refl _ | exact OWk.imp (by repeat constructor)) ?_)⟩
def greatM (t : Tm) : Bool := (longT 400 MD 0 0 t).1
theorem great_size {t : Tm} (h : greatM t = false) : tsize t ≤ 400 := by
 obtain ⟨_, h2⟩ := longT_ls 400 MD t 0 0
 unfold greatM at h
 refine Nat.le_of_not_lt fun hlt => ?_
 have := h2 (by omega)
 rw [h] at this; cases this
theorem great_c (t : Tm) (hN : tsize t < 2^40) : FCall Tryz.prog G 52 [.pu (tmc 0 t)] (bv (greatM t)) := by
 refine FCall.of_tri tbl 11 Tryz.func52 rfl rfl rfl fun w0 M ρ0 D0 => ?_
 refine yR ?_;refine s_box SS 1 ?_;refine yB ?_;refine e_seqN [1] ?_;refine yR ?_;refine s_alloc SS 3 ?_;refine yS ?_;refine e_seqN [3] ?_;refine yR ?_;refine s_alloc SS 4 ?_;refine e_seqN [4] ?_;refine yR ?_;refine s_val (v_mkFnD SS) ?_;refine yS ?_;refine e_seq ?_;refine yR ?_;refine s_alloc SS 5 ?_;refine e_seqN [5] ?_;refine yR ?_;refine s_val (v_mkFnD SS) ?_;refine yS ?_;refine e_seq ?_;refine yR ?_;refine yL ?_;refine yL ?_;refine s_call (gt_c _ t (Nat.le_refl _) hN 0 0 (by omega) (by omega)) ?_;refine yA ?_;refine e_seq ?_;refine tQ ?_
 exact Tri.ret ⟨.inr rfl, ret1 rfl resV_tmp (VImp.refl _)⟩
end Go.Proofs.YtkcgkignhpepkaaGreatDoor

/- Whether a world is more than is looked at; a world's own copy. -/
namespace Go.Proofs.YtkcgkignhpepkaaGreatDoor
open Go Hs
section
variable {G : List (Nat × TypeId × Pu)} {lo : Nat}
theorem idxKt_c {vf : PV} {f : FuncId} {first captured : List PV} {HR : List (Nat × Ob)} (hvf : fnV vf = some (f, first, captured)) (hst : Str vf vf) (hnt : isTup vf = false) (hent : entersB Tryz.prog f = true) (hna : (first ++ captured).any isTup = false)
  (hfree : ∀ l ob, get HR l = some ob → freeOb ob = true) {ps : List Pu} (hlen : ps.length < 4611686018427387904) {H H' : List (Nat × Ob)} {r : Option Nat} (hd0 : disjB HR H' = true) (hk : ∀ l ob, get H l = some ob → ∃ ob', get H' l = some ob') (hR : ∀ l ob, get HR l = some ob → get H l = none)
  (h : AnyC Tryz.prog G f first captured HR ps H r H') : HCall Tryz.prog G 142 [.pu (.sl lo 116 ps), vf] HR H (iv .i64 (idxV r)) H' [] := by
 refine HCall.of_tri tbl (n := 19) (L := keysOf H' ++ heapLabs H') Tryz.func142 rfl rfl hfree (fun l ob hl => disjB_none hd0 hl) (fun l hl => by simp [PV.labs] at hl) (fun l ob hl => keys_mem hl) hk ?_
 rintro ⟨w0, n', M, G', L, R, ρ0, D0, ro⟩ hn hG hL hR' hro
 simp only at hn hG hL hR' hro
 subst hn hG hL hR' hro
 have hset : ∀ (i : Nat) (H1 : List (Nat × Ob)) (r1 : Option Nat), AnyC Tryz.prog G' f first captured HR (ps.drop i) H1 r1 H' → True := fun _ _ _ _ => trivial
 let σ := {s : Nat × List (Nat × Ob) × Option Nat // AnyC Tryz.prog G' f first captured HR (ps.drop s.1) s.2.1 s.2.2 H' ∧ s.1 ≤ ps.length ∧ idxV r = (match s.2.2 with | some j => ((s.1 + j : Nat) : Int) | none => -1) ∧ (∀ l ob, get s.2.1 l = some ob → l ∉ keysOf HR)}
 refine yR ?_;refine yB ?_;refine e_seq ?_;refine yR ?_;refine yM ?_;refine yC ?_;refine yJ ?_;refine e_seq ?_;refine tQ ?_;refine Tri.block (Tri.loop (σ := σ) (fun s => ⟨[(0, .pu (.sl lo 116 ps)), (1, vf), (7, iv .i64 ps.length), (8, iv .i64 s.1.1)], HR ++ s.1.2.1⟩) (fun s => ps.length - s.1.1) ⟨(0, H, r), by simpa using h, Nat.zero_le _, by cases r <;> simp [idxV], fun l ob hl hm => ?_⟩ ?_ (fun s => ?_))
 ·obtain ⟨ob', ho⟩ := get_some_of (a := HR) hm
  rw [hR l ob' ho] at hl
  cases hl
 ·exact le_same (.cons rfl rfl (.cons rfl rfl (.cons rfl rfl (.cons rfl rfl .nil))))
 obtain ⟨⟨i, H1, r1⟩, hA, hi0, hr1, hdisj⟩ := s
 simp only at hA hi0 hr1 hdisj ⊢
 refine yR ?_;refine yI ?_;refine e_seq ?_;refine Tri.seq (Tri.cond rfl (fun hb => Tri.skip ?_) (fun hb => Tri.exit ?_))
 ·have hi : i < ps.length := by simpa using hb
  obtain ⟨p, hp⟩ : ∃ p, ps[i]? = some p := ⟨ps[i], by simp [hi]⟩
  have hdr : ps.drop i = p :: ps.drop (i + 1) := by
   rw [List.drop_eq_getElem_cons hi]
   simp only [List.getElem?_eq_getElem hi, Option.some.injEq] at hp
   rw [hp]
  rw [hdr] at hA
  have hHR : ∀ l ob, get HR l = some ob → ∃ ob1, get (HR ++ H1) l = some ob1 ∧ ObImp Tryz.prog ob1 ob := fun l ob hl => ⟨ob, by rw [get_append, hl]; rfl, ObImp.refl _⟩
  have hH1 : ∀ l ob, get H1 l = some ob → l ∉ keysOf HR ∧ ∃ ob1, get (HR ++ H1) l = some ob1 ∧ ObImp Tryz.prog ob1 ob := fun l ob hl => by
   refine ⟨hdisj l ob hl, ob, ?_, ObImp.refl _⟩
   rw [get_append]
   cases hg : get HR l with
   | some o => exact absurd (get_keys hg) (hdisj l ob hl)
   | none => simpa using hl
  have hnt2 : (first ++ [PV.pu p] ++ captured).any isTup = false := by
   simp only [List.any_append, Bool.or_eq_false_iff] at hna ⊢
   exact ⟨⟨hna.1, by simp [isTup]⟩, hna.2⟩
  refine Tri.seq (Tri.block ?_);refine yR ?_;refine yM ?_;refine yA ?_;refine e_seq ?_
  cases hA with
  | hit hc hd =>
   refine yR ?_;refine s_val (v_move SS (h := Ev.mk rfl hst)) ?_;refine yM ?_;refine yM ?_;refine s_val (v_index SS (h0 := by omega) (hp := hp)) ?_;refine yL ?_;refine step_call (vf := vf) (first := first) (captured := captured) (vs := [.pu p]) (HR := HR) (H := H1) (news := []) rfl hst hvf hent (.cons (.mk rfl .pu) .nil) rfl (VImps.refl _) hnt2 hHR hH1 hc rfl ?_;refine e_seq ?_;refine tQ ?_;refine Tri.condT rfl ?_;refine yR ?_;refine yM ?_;refine yA ?_;refine e_seq ?_;refine Tri.ret ⟨.inr rfl, _, Ghost.refl _, ret1 rfl resV_tmp (iv_imp ?_), fun l ob hl => ⟨ob, ?_, ObImp.refl _⟩⟩
   ·rw [hr1]
    simp
   ·rw [get_append, hl]; rfl
  | next hc hd t =>
   rename_i H2 r2
   refine yR ?_;refine s_val (v_move SS (h := Ev.mk rfl hst)) ?_;refine yM ?_;refine yM ?_;refine s_val (v_index SS (h0 := by omega) (hp := hp)) ?_;refine yL ?_;refine step_call (vf := vf) (first := first) (captured := captured) (vs := [.pu p]) (HR := HR) (H := H1) (news := []) rfl hst hvf hent (.cons (.mk rfl .pu) .nil) rfl (VImps.refl _) hnt2 hHR hH1 hc rfl ?_;refine e_seq ?_;refine tQ ?_;refine Tri.condF rfl ?_;refine Tri.skip ?_;refine yR ?_;refine yI ?_;refine yM ?_;refine e_seq ?_
   refine ⟨⟨(i + 1, H2, r2), t, hi, ?_, fun l ob hl hm => ?_⟩, by simp; omega, le_call hd (.cons rfl rfl (.cons rfl rfl (.cons rfl rfl (.cons rfl ?_ .nil))))⟩
   ·rw [hr1]
    cases r2 with
    | none => rfl
    | some j => exact congrArg (fun n : Nat => (n : Int)) (show i + (j + 1) = i + 1 + j by omega)
   ·obtain ⟨ob', ho⟩ := get_some_of (a := HR) hm
    rw [disjB_none hd hl] at ho
    cases ho
   ·rw [wrap64 (by omega) (by omega)]
    rfl
 ·have hi : i = ps.length := by
   have : ps.length ≤ i := by simpa using hb
   omega
  subst hi
  rw [List.drop_length] at hA
  cases hA
  refine yR ?_;refine yB ?_;refine e_seq ?_;refine Tri.ret ⟨.inr rfl, _, Ghost.refl _, ret1 rfl resV_tmp (iv_imp (by rw [hr1])), fun l ob hl => ⟨ob, ?_, ObImp.refl _⟩⟩;rw [get_append]
  cases hg : get HR l with
  | some o => exact absurd (get_keys hg) (hdisj l ob hl)
  | none => simpa using hl
theorem conKt_c {vf : PV} {f : FuncId} {first captured : List PV} {HR : List (Nat × Ob)} (hvf : fnV vf = some (f, first, captured)) (hst : Str vf vf) (hnt : isTup vf = false) (hent : entersB Tryz.prog f = true) (hna : (first ++ captured).any isTup = false)
  (hfree : ∀ l ob, get HR l = some ob → freeOb ob = true) {ps : List Pu} (hlen : ps.length < 4611686018427387904) {H H' : List (Nat × Ob)} {r : Option Nat} (hd0 : disjB HR H' = true) (hd1 : disjB HR H = true) (hk : ∀ l ob, get H l = some ob → ∃ ob', get H' l = some ob')
  (h : AnyC Tryz.prog G f first captured HR ps H r H') : HCall Tryz.prog G 79 [.pu (.sl lo 116 ps), vf] HR H (bv r.isSome) H' [] := by
 refine HCall.of_tri tbl (n := 9) (L := keysOf H' ++ heapLabs H') Tryz.func79 rfl rfl hfree (fun l ob hl => disjB_none hd0 hl) (fun l hl => by simp [PV.labs] at hl) (fun l ob hl => keys_mem hl) hk ?_
 rintro ⟨w0, n', M, G', L, R, ρ0, D0, ro⟩ hn hG hL hR' hro
 simp only at hn hG hL hR' hro
 subst hn hG hL hR' hro
 have hHR : ∀ l ob, get HR l = some ob → ∃ ob1, get (HR ++ H) l = some ob1 ∧ ObImp Tryz.prog ob1 ob := fun l ob hl => ⟨ob, by rw [get_append, hl]; rfl, ObImp.refl _⟩
 have hH1 : ∀ l ob, get H l = some ob → l ∉ keysOf HR ∧ ∃ ob1, get (HR ++ H) l = some ob1 ∧ ObImp Tryz.prog ob1 ob := fun l ob hl => by
  have hz := disjB_none hd1 hl
  refine ⟨fun hm => ?_, ob, ?_, ObImp.refl _⟩
  ·obtain ⟨ob', ho⟩ := get_some_of (a := HR) hm
   rw [hz] at ho; cases ho
  ·rw [get_append, hz]; simpa using hl
 refine yR ?_;refine yB ?_;refine e_seq ?_;refine yR ?_;refine yM ?_;refine s_val (v_move SS (h := Ev.mk rfl hst)) ?_
 refine step_call (vf := .pu (.leaf (.func (.func 142) #[] #[]))) (first := []) (captured := []) (vs := [.pu (.sl lo 116 ps), vf]) (HR := HR) (H := H) (news := []) rfl .pu rfl (by kernel_rfl) (.cons (.mk rfl .pu) (.cons (.mk rfl hst) .nil)) (by rw [List.any_cons, List.any_cons, hnt]; rfl) (VImps.refl _) (by rw [List.nil_append, List.append_nil, List.any_cons, List.any_cons, hnt]; rfl) hHR hH1 (idxKt_c hvf hst hnt hent hna hfree hlen hd0 hk (fun l ob hl => disjB_none' hd1 hl) h) rfl ?_;refine yI ?_;refine yA ?_;refine e_seq ?_
 refine Tri.ret ⟨.inr rfl, _, Ghost.refl _, ret1 rfl resV_tmp (bv_imp ?_), fun l ob hl => ⟨ob, by rw [get_append, hl]; rfl, ObImp.refl _⟩⟩
 cases r with
 | none => simp [idxV]
 | some j => simp [idxV]
theorem conKt_d (vf : PV) {f : FuncId} {first captured : List PV} {HR : List (Nat × Ob)} {ps : List Pu} (hlen : ps.length < 4611686018427387904) {H H' : List (Nat × Ob)} {r : Option Nat} (h : AnyC Tryz.prog G f first captured HR ps H r H')
  (hvf : fnV vf = some (f, first, captured) := by rfl) (hst : Str vf vf := by repeat constructor) (hnt : isTup vf = false := by rfl) (hent : entersB Tryz.prog f = true := by kernel_rfl) (hna : (first ++ captured).any isTup = false := by rfl)
  (hfree : HR.all (fun q => freeOb q.2) = true := by rfl) (hd0 : disjB HR H' = true := by rfl) (hd1 : disjB HR H = true := by rfl) (hk : ((keysOf H).all fun l => (keysOf H').contains l) = true := by rfl) :
  HCall Tryz.prog G 79 [.pu (.sl lo 116 ps), vf] HR H (bv r.isSome) H' [] :=
 conKt_c hvf hst hnt hent hna (fun l ob hl => List.all_eq_true.1 hfree _ (get_mem hl)) hlen hd0 hd1 (fun l ob hl => get_some_of (by simpa [keysOf] using List.all_eq_true.1 hk l (get_keys hl))) h
end
variable {G : List (Nat × TypeId × Pu)}
theorem lgreat1_c (x : KT) (hN : tsize x.2 < 2^40) : FCall Tryz.prog G 82 [.pu (ktP x)] (bv (greatM x.2)) := by
 refine FCall.of_tri tbl 6 Tryz.func82 rfl rfl rfl fun w0 M ρ0 D0 => ?_
 refine yR ?_;refine s_box SS 1 ?_;refine yB ?_;refine e_seqN [1] ?_;refine yR ?_;refine yF ?_;refine yL ?_;refine s_val (v_callD (fun _ => great_c x.2 hN)) ?_;refine yA ?_;refine e_seq ?_;refine tQ ?_;exact Tri.ret ⟨.inr rfl, ret1 rfl resV_tmp (VImp.refl _)⟩
def wgreatM (ts : List KT) (t : Tm) : Bool := decide ((ts.length : Int) > 45) || greatM t || ts.any (fun x => greatM x.2)
theorem wgreat_ok {ts : List KT} {t : Tm} (h : wgreatM ts t = false) : ts.length ≤ 45 ∧ tsize t ≤ 400 ∧ ∀ x ∈ ts, tsize x.2 ≤ 400 := by
 simp only [wgreatM, Bool.or_eq_false_iff, decide_eq_false_iff_not, List.any_eq_false] at h
 exact ⟨by omega, great_size h.1.2, fun x hx => great_size (by simpa using h.2 x hx)⟩
theorem lgreat_c (a b : Pu) (ts : List KT) (t : Tm) (hl : ts.length < 2^40) (hts : ∀ x ∈ ts, tsize x.2 < 2^40) (hN : tsize t < 2^40) : FCall Tryz.prog G 12 [.pu (wdP a b ts), .pu (tmc 0 t)] (bv (wgreatM ts t)) := by
 have hA : ∃ r : Option Nat, r.isSome = ts.any (fun x => greatM x.2) ∧ AnyC Tryz.prog G 82 [] [] [] (ts.map ktP) [] r [] := by
  have := AnyC.state (P := Tryz.prog) (G := G) (f := 82) (first := []) (captured := []) (HR := []) ktP (fun c a => (greatM a.2, c)) (fun _ => []) (fun _ => True) (fun _ => rfl) ts (fun a ha c _ => ⟨lgreat1_c a (hts a ha), fun _ => trivial⟩) 0 trivial
  rw [anyS_pure (fun a : KT => greatM a.2)] at this
  obtain ⟨r, h1, h2⟩ := this
  exact ⟨r, h1, h2⟩
 obtain ⟨r, hr, hA⟩ := hA
 refine FCall.of_tri tbl 18 Tryz.func12 rfl rfl rfl fun w0 M ρ0 D0 => ?_
 refine yR ?_;refine s_box SS 2 ?_;refine s_box SS 3 ?_;refine yB ?_;refine e_seqN [2, 3] ?_;refine yR ?_;refine yF ?_;refine yK ?_;refine yC ?_;refine yI ?_;refine yM ?_;refine xL ?_;refine s_gg zG (v_callD (fun _ => great_c t hN)) ?_;refine yO ?_;refine yM ?_;refine xF ?_;refine xL ?_;refine s_gg zG (v_callD (fun _ => conKt_d (lo := 0) (fV 82) (by rw [List.length_map]; omega) hA)) ?_;refine yO ?_;refine yA ?_;refine e_seq ?_;refine tQ ?_;exact Tri.ret ⟨.inr rfl, ret1 rfl resV_tmp (bv_imp (by rw [hr, List.length_map]; rfl))⟩
abbrev kdN : Pu := .sl 0 130 []
abbrev kaN : Pu := .sl 0 136 []
theorem ownWorld_c (ts : List KT) (hl : ts.length < 2^30) (hts : ∀ x ∈ ts, tsize x.2 < 2^30) : FCall Tryz.prog G 14 [.pu (wdP kdN kaN ts)] (.pu (wdP kdN kaN ts)) := by
 refine FCall.of_tri tbl 68 Tryz.func14 rfl rfl rfl fun w0 M ρ0 D0 => ?_
 refine yR ?_;refine s_box SS 1 ?_;refine s_alloc SS 2 ?_;refine e_seqN [1, 2] ?_;refine yR ?_;refine s_alloc SS 3 ?_;refine e_seqN [3] ?_;refine yR ?_;refine yF ?_;refine yK ?_;refine yC ?_;refine yJ ?_;refine e_seq ?_;refine tQ ?_;refine Tri.block (Tri.loopW (σ := Nat) (fun i => ⟨[(1, .ptr 1 [] 26), (2, .ptr 2 [] 26), (3, .ptr 3 [] 26), (11, .pu (.sl 0 130 [])), (12, iv .i64 0), (13, iv .i64 0)], [(1, .var 26 (.pu (wdP kdN kaN ts))), (2, .var 26 (.agg 26 [.nilc, .nilc, .nilc])), (3, .var 26 (.agg 26 [.nilc, .nilc, .nilc]))]⟩) (fun i => 1) 0 ?_ ?_ (fun i => ?_))
 ·exact zW
 ·exact zW
 refine yR ?_;refine yI ?_;refine e_seq ?_;refine tQ ?_;refine Tri.cond rfl (fun h0 => ?_) (fun h0 => ?_)
 ·exfalso; simp at h0
 ·skip
  refine Tri.exit ?_;refine yR ?_;refine yF ?_;refine yK ?_;refine yC ?_;refine yJ ?_;refine e_seq ?_;refine tQ ?_;refine Tri.block (Tri.loopW (σ := Nat) (fun i => ⟨[(1, .ptr 1 [] 26), (2, .ptr 2 [] 26), (3, .ptr 3 [] 26), (30, .pu (.sl 0 136 [])), (31, iv .i64 0), (32, iv .i64 0)], [(1, .var 26 (.pu (wdP kdN kaN ts))), (2, .var 26 (.agg 26 [.nilc, .nilc, .nilc])), (3, .var 26 (.agg 26 [.nilc, .nilc, .nilc]))]⟩) (fun i => 1) 0 ?_ ?_ (fun i => ?_))
  ·exact zW
  ·exact zW
  refine yR ?_;refine yI ?_;refine e_seq ?_;refine tQ ?_;refine Tri.cond rfl (fun h1 => ?_) (fun h1 => ?_)
  ·exfalso; simp at h1
  ·skip
   refine Tri.exit ?_;refine yR ?_;refine yF ?_;refine yK ?_;refine yC ?_;refine yJ ?_;refine e_seq ?_;refine tQ ?_;refine Tri.block (Tri.loopW (σ := Nat) (fun i => ⟨[(1, .ptr 1 [] 26), (2, .ptr 2 [] 26), (3, .ptr 3 [] 26), (49, .pu (.sl 0 116 (ts.map ktP))), (50, iv .i64 (ts.map ktP).length), (51, iv .i64 i)], [(2, .var 26 (.agg 26 [.nilc, .nilc, .nilc])), (3, .var 26 (.agg 26 [.nilc, .nilc, .ow 0 116 ((ts.take i).map ktP)]))]⟩) (fun i => ts.length - i) 0 ?_ ?_ (fun i => ?_))
   ·repeat (first | exact .nil | refine .cons rfl (by first | exact .refl | (focus ((repeat constructor); done)) | (exact .var (.agg (.cons .refl (.cons .refl (.cons .nilcOw .nil)))))) ?_)
   ·repeat (first | exact .nil | refine .cons rfl (by first | exact .refl | (focus ((repeat constructor); done)) | (exact .var (.agg (.cons .refl (.cons .refl (.cons .nilcOw .nil)))))) ?_)
   refine yR ?_;refine yI ?_;refine e_seq ?_;refine tQ ?_;refine Tri.cond rfl (fun h2 => ?_) (fun h2 => ?_)
   ·skip
    have hi : i < ts.length := by simpa using h2
    have hmap : (ts.take (i + 1)).map ktP = (ts.take i).map ktP ++ [ktP ts[i]] := by rw [List.take_succ_eq_append_getElem hi, List.map_append]; rfl
    refine Tri.skip ?_;refine tQ ?_;refine Tri.block ?_;refine yR ?_;refine s_val (v_index SS (h0 := by omega) (hp := kt_get hi)) ?_;refine yL ?_;refine s_alloc SS 9 ?_;refine yS ?_;refine e_seqN [9] ?_;refine yR ?_;refine yF ?_;refine yK ?_;refine yF ?_;refine yL ?_;refine yF ?_;refine yL ?_;refine s_val (v_callD (fun _ => kitOwnTerm_c _ ts[i].2 (Nat.le_refl _) (hts _ (List.getElem_mem hi)))) ?_;refine yP ?_;refine yZ ?_;refine s_app2 3 [2] ?_ ?_
    ·simp; omega
    refine yF ?_;refine yW ?_;refine e_draw ?_;refine yR ?_;refine yI ?_;refine yM ?_;refine e_seq ?_
    refine ⟨i + 1, by omega, le_of ?_ ?_⟩
    ·repeat (first | exact SubE.nil | refine SubE.cons rfl (by first | rfl | (rw [wrap64 (by omega) (by omega)]; rfl) | (rw [hmap]; rfl)) ?_)
    ·repeat (first | exact SubH.nil | refine SubH.cons rfl (by first | rfl | (rw [wrap64 (by omega) (by omega)]; rfl) | (rw [hmap]; rfl)) ?_)
   ·skip
    have hi : ts.length ≤ i := by simpa using h2
    rw [List.take_of_length_le hi];refine Tri.exit ?_;refine yR ?_;refine yL ?_;refine yS ?_;refine e_seq ?_;refine tQ ?_;exact Tri.ret ⟨.inr rfl, ret1 rfl resV_cell (ToPu.imp (by repeat constructor))⟩
end Go.Proofs.YtkcgkignhpepkaaGreatDoor

/- Worlds that are the same. -/
namespace Go.Proofs.YtkcgkignhpepkaaGreatDoor
open Go Hs
variable {G : List (Nat × TypeId × Pu)}
theorem eqfKd_c (f : FuncId) : FCall Tryz.prog G 100 [.pu kdN, .pu kdN, fV f] (bv true) := by
 refine FCall.of_tri tbl 32 Tryz.func100 rfl rfl rfl fun w0 M ρ0 D0 => ?_
 refine yR ?_;refine yB ?_;refine e_seq ?_;refine yR ?_;refine yM ?_;refine yC ?_;refine yM ?_;refine yC ?_;refine yI ?_;refine e_seq ?_;refine tQ ?_;refine Tri.cond rfl (fun h0 => ?_) (fun h0 => ?_)
 ·exfalso; simp at h0
 ·skip
  refine Tri.skip ?_;refine yR ?_;refine yM ?_;refine yC ?_;refine yJ ?_;refine e_seq ?_;refine tQ ?_;refine Tri.block (Tri.loopW (σ := Nat) (fun i => ⟨[(15, .pu kdN), (16, iv .i64 0), (17, iv .i64 0)], []⟩) (fun i => 1) 0 ?_ ?_ (fun i => ?_))
  ·exact zW
  ·exact zW
  refine yR ?_;refine yI ?_;refine e_seq ?_;refine tQ ?_;refine Tri.cond rfl (fun h1 => ?_) (fun h1 => ?_)
  ·exfalso; simp at h1
  ·skip
   refine Tri.exit ?_;refine yR ?_;refine yB ?_;refine e_seq ?_;refine tQ ?_;exact Tri.ret ⟨.inr rfl, ret1 rfl resV_tmp (ToPu.imp (by repeat constructor))⟩
theorem eqfKa_c (f : FuncId) : FCall Tryz.prog G 103 [.pu kaN, .pu kaN, fV f] (bv true) := by
 refine FCall.of_tri tbl 32 Tryz.func103 rfl rfl rfl fun w0 M ρ0 D0 => ?_
 refine yR ?_;refine yB ?_;refine e_seq ?_;refine yR ?_;refine yM ?_;refine yC ?_;refine yM ?_;refine yC ?_;refine yI ?_;refine e_seq ?_;refine tQ ?_;refine Tri.cond rfl (fun h0 => ?_) (fun h0 => ?_)
 ·exfalso; simp at h0
 ·skip
  refine Tri.skip ?_;refine yR ?_;refine yM ?_;refine yC ?_;refine yJ ?_;refine e_seq ?_;refine tQ ?_;refine Tri.block (Tri.loopW (σ := Nat) (fun i => ⟨[(15, .pu kaN), (16, iv .i64 0), (17, iv .i64 0)], []⟩) (fun i => 1) 0 ?_ ?_ (fun i => ?_))
  ·exact zW
  ·exact zW
  refine yR ?_;refine yI ?_;refine e_seq ?_;refine tQ ?_;refine Tri.cond rfl (fun h1 => ?_) (fun h1 => ?_)
  ·exfalso; simp at h1
  ·skip
   refine Tri.exit ?_;refine yR ?_;refine yB ?_;refine e_seq ?_;refine tQ ?_;exact Tri.ret ⟨.inr rfl, ret1 rfl resV_tmp (ToPu.imp (by repeat constructor))⟩
theorem eqfKt_c (f : FuncId) (he : entersB Tryz.prog f = true) (φ : KT → KT → Bool) (l m : List KT) (hl : l.length < 2^40) (hm : m.length < 2^40) (h : ∀ i (h1 : i < l.length) (h2 : i < m.length), FCall Tryz.prog G f [.pu (ktP l[i]), .pu (ktP m[i])] (bv (φ l[i] m[i]))) :
  FCall Tryz.prog G 106 [.pu (.sl 0 116 (l.map ktP)), .pu (.sl 0 116 (m.map ktP)), fV f] (bv (eqLM φ l m)) := by
 refine FCall.of_tri tbl 32 Tryz.func106 rfl rfl rfl fun w0 M ρ0 D0 => ?_
 refine yR ?_;refine yB ?_;refine e_seq ?_;refine yR ?_;refine yM ?_;refine yC ?_;refine yM ?_;refine yC ?_;refine yI ?_;refine e_seq ?_;refine tQ ?_;refine Tri.cond rfl (fun h0 => ?_) (fun h0 => ?_)
 ·skip
  have hf : eqLM φ l m = false := eqLM_len (by simp at h0; omega)
  refine yR ?_;refine yB ?_;refine e_seq ?_;refine tQ ?_;exact Tri.ret ⟨.inr rfl, ret1 rfl resV_tmp (bv_imp hf.symm)⟩
 ·skip
  have hlm : l.length = m.length := by simp at h0; omega
  refine Tri.skip ?_;refine yR ?_;refine yM ?_;refine yC ?_;refine yJ ?_;refine e_seq ?_;refine tQ ?_;refine Tri.block (Tri.loopW (σ := {i : Nat // eqLM φ (l.take i) (m.take i) = true}) (fun i => ⟨[(1, .pu (.sl 0 116 (m.map ktP))), (2, fV f), (15, .pu (.sl 0 116 (l.map ktP))), (16, iv .i64 (l.map ktP).length), (17, iv .i64 i.1)], []⟩) (fun i => l.length - i.1) ⟨0, by simp [eqLM]⟩ ?_ ?_ (fun i => ?_))
  ·exact zW
  ·exact zW
  refine yR ?_;refine yI ?_;refine e_seq ?_;refine tQ ?_;refine Tri.cond rfl (fun h1 => ?_) (fun h1 => ?_)
  ·skip
   have hi : i.1 < l.length := by simpa using h1
   have hi2 : i.1 < m.length := by omega
   have htk := eqLM_take (φ := φ) hi hi2
   rw [i.2, Bool.true_and] at htk
   refine Tri.skip ?_;refine tQ ?_;refine Tri.block ?_;refine yR ?_;refine yM ?_;refine s_val (v_index SS (h0 := by omega) (hp := kt_get hi)) ?_;refine yL ?_;refine s_alloc SS 8 ?_;refine yA ?_;refine yS ?_;refine e_seqN [8] ?_;refine yR ?_;refine yM ?_;refine yM ?_;refine s_val (v_index SS (h0 := by omega) (hp := kt_get hi2)) ?_;refine yL ?_;refine s_alloc SS 9 ?_;refine yS ?_;refine e_seqN [9] ?_;refine yR ?_;refine yM ?_;refine yL ?_;refine yL ?_;refine s_val (v_callO (fun _ => h i.1 hi hi2) (he := he)) ?_;refine yQ ?_;refine e_seq ?_;refine tQ ?_
   refine Tri.cond rfl (fun h2 => ?_) (fun h2 => ?_)
   ·skip
    have hf : eqLM φ l m = false := eqLM_stop (i := i.1 + 1) (by rw [htk]; simpa using h2)
    refine yR ?_;refine yB ?_;refine e_seq ?_;refine tQ ?_;exact Tri.ret ⟨.inr rfl, ret1 rfl resV_tmp (bv_imp hf.symm)⟩
   ·skip
    have hnext : eqLM φ (l.take (i.1 + 1)) (m.take (i.1 + 1)) = true := by rw [htk]; simpa using h2
    refine Tri.skip ?_;refine yR ?_;refine yI ?_;refine yM ?_;refine e_seq ?_
    refine ⟨⟨i.1 + 1, hnext⟩, by show l.length - (i.1 + 1) < l.length - i.1; omega, le_of ?_ ?_⟩
    ·exact zE
    ·exact zH
  ·skip
   have hf : eqLM φ l m = true := by
    have := i.2
    rwa [List.take_of_length_le (by simp at h1; omega), List.take_of_length_le (by simp at h1; omega)] at this
   refine Tri.exit ?_;refine yR ?_;refine yB ?_;refine e_seq ?_;refine tQ ?_;exact Tri.ret ⟨.inr rfl, ret1 rfl resV_tmp (bv_imp hf.symm)⟩
def sameK (x y : KT) : Bool := x.1 == y.1 && sameT x.2 y.2
theorem kt_wf {D : Nat → Nat → Prop} {w : World} {x : KT} {v : List Value} (h : PR Tryz.prog D w (ktP x) v) : x.1.length = 32 := by
 obtain ⟨_, h⟩ := PR_agg h
 obtain ⟨⟨_, h⟩, _⟩ := PRs_cons h
 exact ref_len h
theorem sameK_c (x y : KT) (hx : tsize x.2 < 2^40) (hy : tsize y.2 < 2^40) : FCall Tryz.prog G 107 [.pu (ktP x), .pu (ktP y)] (bv (sameK x y)) := by
 refine FCall.of_tri tbl 17 Tryz.func107 rfl rfl rfl fun w0 M ρ0 D0 => ?_
 refine Tri.fact (i := 0) rfl (fun D w x h => kt_wf h) (fun hr => ?_);refine Tri.fact (i := 1) rfl (fun D w x h => kt_wf h) (fun hr' => ?_);refine yR ?_;refine s_box SS 2 ?_;refine s_box SS 3 ?_;refine yB ?_;refine e_seqN [2, 3] ?_;refine yR ?_;refine yF ?_;refine yL ?_;refine yF ?_;refine yL ?_;refine s_val (v_bin SS (h := bin_eqS (hr.trans hr'.symm))) ?_;refine yM ?_;refine xF ?_;refine xL ?_;refine xF ?_;refine xL ?_;refine s_gg zG (v_callD (fun _ => sameT_c _ x.2 y.2 (Nat.le_refl _) hx hy)) ?_;refine yN ?_;refine yA ?_;refine e_seq ?_;refine tQ ?_
 exact Tri.ret ⟨.inr rfl, ret1 rfl resV_tmp (VImp.refl _)⟩
theorem eqLM_refl {α : Type} {φ : α → α → Bool} : ∀ {l : List α}, (∀ a ∈ l, φ a a = true) → eqLM φ l l = true
 | [], _ => rfl
 | a :: l, h => by simp only [eqLM, h a (by simp), Bool.true_and]; exact eqLM_refl fun x hx => h x (by simp [hx])
def sameW (ts us : List KT) : Bool := eqLM sameK ts us
theorem sameW_c (ts us : List KT) (hl : ts.length < 2^40) (hm : us.length < 2^40) (hts : ∀ x ∈ ts, tsize x.2 < 2^40) (hus : ∀ x ∈ us, tsize x.2 < 2^40) : FCall Tryz.prog G 24 [.pu (wdP kdN kaN ts), .pu (wdP kdN kaN us)] (bv (sameW ts us)) := by
 refine FCall.of_tri tbl 24 Tryz.func24 rfl rfl rfl fun w0 M ρ0 D0 => ?_
 refine yR ?_;refine s_box SS 2 ?_;refine s_box SS 3 ?_;refine yB ?_;refine e_seqN [2, 3] ?_;refine yR ?_;refine yF ?_;refine yK ?_;refine yF ?_;refine yK ?_;refine s_val (v_callD (fun _ => eqfKd_c 101)) ?_;refine yM ?_;refine xF ?_;refine xL ?_;refine xF ?_;refine xL ?_;refine s_gg zG (v_callD (fun _ => eqfKa_c 104)) ?_;refine yN ?_;refine yM ?_;refine xF ?_;refine xL ?_;refine xF ?_;refine xL ?_;refine s_gg zG (v_callD (fun _ => eqfKt_c 107 (by kernel_rfl) sameK ts us hl hm (fun i h1 h2 => sameK_c _ _ (hts _ (List.getElem_mem h1)) (hus _ (List.getElem_mem h2))))) ?_;refine yN ?_;refine yA ?_
 refine e_seq ?_;refine tQ ?_;exact Tri.ret ⟨.inr rfl, ret1 rfl resV_tmp (VImp.refl _)⟩
end Go.Proofs.YtkcgkignhpepkaaGreatDoor

/- Memory that may be spoilt: what it is, and that it stays so. -/
namespace Go.Proofs.YtkcgkignhpepkaaGreatDoor
open Go Hs
/-- The i-th element of a row. -/
def el (c : Array Value) (k i : Nat) : List Value := (c.toList.drop (i * k)).take k
theorem el_get (c : Array Value) (k i j : Nat) : (el c k i)[j]? = if j < k then c[i * k + j]? else none := by
 simp only [el, List.getElem?_take, List.getElem?_drop, Array.getElem?_toList]
theorem el_len {c : Array Value} {k i : Nat} (h : (i + 1) * k ≤ c.size) : (el c k i).length = k := by
 simp only [el, List.length_take, List.length_drop, Array.length_toList]
 rw [Nat.succ_mul] at h
 omega
theorem el_splice {c : Array Value} {k i0 i : Nat} {v : List Value} (hv : v.length = k) (h : (i0 + 1) * k ≤ c.size) :
  el (c.toList.take (i0 * k) ++ v ++ c.toList.drop (i0 * k + k)).toArray k i = if i = i0 then v else el c k i := by
 rw [Nat.succ_mul] at h
 have hl : (c.toList.take (i0 * k)).length = i0 * k := by simp; omega
 have hL : ∀ p : Nat, (c.toList.take (i0 * k) ++ v ++ c.toList.drop (i0 * k + k))[p]? = if p < i0 * k then c[p]? else if p < i0 * k + k then v[p - i0 * k]? else c[p]? := fun p => by
  rw [List.append_assoc]
  split
  ·rename_i hp
   rw [List.getElem?_append_left (by omega), List.getElem?_take, if_pos hp, Array.getElem?_toList]
  ·rename_i hp
   rw [List.getElem?_append_right (by omega), hl]
   split
   ·rw [List.getElem?_append_left (by omega)]
   ·rw [List.getElem?_append_right (by omega), List.getElem?_drop, Array.getElem?_toList, hv]
    congr 1
    omega
 refine List.ext_getElem? fun j => ?_
 rw [el_get]
 simp only [List.getElem?_toArray, hL]
 by_cases hj : j < k
 ·rw [if_pos hj]
  rcases Nat.lt_trichotomy i i0 with hi | rfl | hi
  ·have h1 : (i + 1) * k ≤ i0 * k := Nat.mul_le_mul_right k hi
   rw [Nat.succ_mul] at h1
   rw [if_pos (by omega), if_neg (by omega), el_get, if_pos hj]
  ·rw [if_neg (by omega), if_pos (by omega), if_pos rfl]
   congr 1
   omega
  ·have h1 : (i0 + 1) * k ≤ i * k := Nat.mul_le_mul_right k hi
   rw [Nat.succ_mul] at h1
   rw [if_neg (by omega), if_neg (by omega), if_neg (by omega), el_get, if_pos hj]
 ·rw [if_neg hj]
  split
  ·exact (List.getElem?_eq_none (by omega)).symm
  ·rw [el_get, if_neg hj]
section
variable (m hi : Nat) (w : World)
/-- A slice of elements that are soft, whose row is a block from m up to hi. -/
def softS (E : TypeId) (k : Nat) (S : List Value → Prop) (x : Value) : Prop :=
 (∃ a cap, x = .slice a 0 cap) ∨ ∃ b n cap c, x = .slice (some ⟨b, 0, none⟩) n cap ∧ n < 1099511627776 ∧ m ≤ b ∧ b < hi ∧ w.heap[b]? = some (.cells c E (0, 0)) ∧ n * k ≤ c.size ∧ ∀ i, i < n → S (el c k i)
def softP : Nat → List Value → Prop
 | 0, _ => False
 | n + 1, l => ∃ pre s, l = pre ++ [s] ∧ pre.length = 34 ∧ softS m hi w 104 35 (softP n) s
def softC (n : Nat) (S : List Value → Prop) (l : List Value) : Prop := ∃ lp lb, l = lp ++ lb ∧ lp.length = 35 ∧ softP m hi w n lp ∧ S lb
def softT : Nat → List Value → Prop
 | 0, _ => False
 | n + 1, l => ∃ pre s1 s2, l = pre ++ [s1, s2] ∧ pre.length = 34 ∧ softS m hi w 32 36 (softT n) s1 ∧ softS m hi w 106 71 (softC m hi w n (softT n)) s2
end
def zeroP (l : List Value) : Prop := ∃ pre a cap, l = pre ++ [.slice a 0 cap] ∧ pre.length = 34
def zeroT (l : List Value) : Prop := ∃ pre a1 c1 a2 c2, l = pre ++ [.slice a1 0 c1, .slice a2 0 c2] ∧ pre.length = 34
def zeroC (l : List Value) : Prop := ∃ lp lb, l = lp ++ lb ∧ zeroP lp ∧ zeroT lb
/-- The rows of a type keep their elements, but for some that lost all that they held. -/
def Wore1 (E : TypeId) (k : Nat) (Z : List Value → Prop) (m hi : Nat) (w w' : World) : Prop := ∀ (b : Nat) (c : Array Value), m ≤ b → b < hi → w.heap[b]? = some (.cells c E (0, 0)) →
 ∃ c', w'.heap[b]? = some (.cells c' E (0, 0)) ∧ c'.size = c.size ∧ ∀ i, (i + 1) * k ≤ c.size → el c' k i = el c k i ∨ Z (el c' k i)
structure Wore (m hi : Nat) (w w' : World) : Prop where
 pt : Wore1 104 35 zeroP m hi w w'
 tm : Wore1 32 36 zeroT m hi w w'
 cs : Wore1 106 71 zeroC m hi w w'
section
variable {E : TypeId} {k : Nat} {Z : List Value → Prop} {m hi : Nat} {w w' w2 : World}
theorem Wore1.same (h : ∀ b : Nat, m ≤ b → b < hi → w'.heap[b]? = w.heap[b]?) : Wore1 E k Z m hi w w' := fun b c h1 h2 hb => ⟨c, (h b h1 h2).trans hb, rfl, fun _ _ => .inl rfl⟩
theorem Wore1.trans (h : Wore1 E k Z m hi w w') (h' : Wore1 E k Z m hi w' w2) : Wore1 E k Z m hi w w2 := fun b c h1 h2 hb => by
 obtain ⟨c1, e1, e2, e3⟩ := h b c h1 h2 hb
 obtain ⟨c2, f1, f2, f3⟩ := h' b c1 h1 h2 e1
 refine ⟨c2, f1, f2.trans e2, fun i hik => ?_⟩
 rcases f3 i (by omega) with g | g
 ·rcases e3 i hik with g' | g'
  ·exact .inl (g.trans g')
  ·exact .inr (g ▸ g')
 ·exact .inr g
theorem Wore.same (h : ∀ b : Nat, m ≤ b → b < hi → w'.heap[b]? = w.heap[b]?) : Wore m hi w w' := ⟨.same h, .same h, .same h⟩
theorem Wore.refl : Wore m hi w w := .same fun _ _ _ => rfl
theorem Wore.trans (h : Wore m hi w w') (h' : Wore m hi w' w2) : Wore m hi w w2 := ⟨h.pt.trans h'.pt, h.tm.trans h'.tm, h.cs.trans h'.cs⟩
theorem Wore.grew (g : Grew w w') (hh : hi ≤ w.heap.size) : Wore m hi w w' := .same fun b _ h2 => g.block b (by omega)
theorem Wore1.set {b i0 : Nat} {c : Array Value} {E' : TypeId} {k' : Nat} {v : List Value} {Z' : List Value → Prop} (hb : w.heap[b]? = some (.cells c E (0, 0))) (hv : v.length = k) (hf : (i0 + 1) * k ≤ c.size) (hz : Z v) (hE : E' = E → k' = k) (hZ : E' = E → ∀ l, Z l → Z' l) :
  Wore1 E' k' Z' m hi w (w.setRow b (c.toList.take (i0 * k) ++ v ++ c.toList.drop (i0 * k + k)).toArray) := fun b' c1 h1 h2 hb' => by
 by_cases e : b' = b
 ·subst e
  rw [hb] at hb'
  simp at hb'
  obtain ⟨rfl, rfl⟩ := hb'
  obtain rfl := hE rfl
  refine ⟨_, setRow_heap w b' c _ E (0, 0) hb, ?_, fun i hi' => ?_⟩
  ·rw [Nat.succ_mul] at hf
   simp
   omega
  ·rw [el_splice hv hf]
   split
   ·exact .inr (hZ rfl _ hz)
   ·exact .inl rfl
 ·exact ⟨c1, (setRow_ne w b _ e).trans hb', rfl, fun _ _ => .inl rfl⟩
theorem softS_mono {S S' : List Value → Prop} (W : Wore1 E k Z m hi w w') (h1 : ∀ l, S l → S' l) (h2 : ∀ l l0, S l0 → Z l → S' l) {x : Value} (h : softS m hi w E k S x) : softS m hi w' E k S' x := by
 rcases h with h | ⟨b, n, cap, c, rfl, e0, e1, e2, e3, e4, e5⟩
 ·exact .inl h
 ·obtain ⟨c', f1, f2, f3⟩ := W b c e1 e2 e3
  refine .inr ⟨b, n, cap, c', rfl, e0, e1, e2, f1, by omega, fun i hin => ?_⟩
  rcases f3 i (Nat.le_trans (Nat.mul_le_mul_right k hin) e4) with g | g
  ·rw [g]; exact h1 _ (e5 i hin)
  ·exact h2 _ _ (e5 i hin) g
theorem softS_view {S : List Value → Prop} {x : Value} (h : softS m hi w E k S x) : ∃ a n cap, x = .slice a n cap ∧ n < 1099511627776 ∧ ∀ i, i < n → ∃ b c, a = some ⟨b, 0, none⟩ ∧ m ≤ b ∧ b < hi ∧ w.heap[b]? = some (.cells c E (0, 0)) ∧ (i + 1) * k ≤ c.size ∧ S (el c k i) := by
 rcases h with ⟨a, cap, rfl⟩ | ⟨b, n, cap, c, rfl, e0, e1, e2, e3, e4, e5⟩
 ·exact ⟨a, 0, cap, rfl, by omega, fun i h => by omega⟩
 ·exact ⟨_, n, cap, rfl, e0, fun i h => ⟨b, c, rfl, e1, e2, e3, Nat.le_trans (Nat.mul_le_mul_right k h) e4, e5 i h⟩⟩
theorem softP_mono (W : Wore m hi w w') : ∀ (n : Nat) (l : List Value), softP m hi w n l → softP m hi w' n l
 | 0, _, h => h
 | n + 1, l, ⟨pre, s, e1, e2, e3⟩ => ⟨pre, s, e1, e2, softS_mono W.pt (softP_mono W n) (fun l l0 h0 hz => by
   cases n with
   | zero => exact h0.elim
   | succ n =>
    obtain ⟨pre, a, cap, rfl, hp⟩ := hz
    exact ⟨pre, _, rfl, hp, .inl ⟨a, cap, rfl⟩⟩) e3⟩
theorem zero_softP {n : Nat} {l l0 : List Value} (h0 : softP m hi w n l0) (hz : zeroP l) : softP m hi w' n l := by
 cases n with
 | zero => exact h0.elim
 | succ n =>
  obtain ⟨pre, a, cap, rfl, hp⟩ := hz
  exact ⟨pre, _, rfl, hp, .inl ⟨a, cap, rfl⟩⟩
theorem zero_softT {n : Nat} {l l0 : List Value} (h0 : softT m hi w n l0) (hz : zeroT l) : softT m hi w' n l := by
 cases n with
 | zero => exact h0.elim
 | succ n =>
  obtain ⟨pre, a, cap, a2, cap2, rfl, hp⟩ := hz
  exact ⟨pre, _, _, rfl, hp, .inl ⟨a, cap, rfl⟩, .inl ⟨a2, cap2, rfl⟩⟩
theorem softT_mono (W : Wore m hi w w') : ∀ (n : Nat) (l : List Value), softT m hi w n l → softT m hi w' n l
 | 0, _, h => h
 | n + 1, l, ⟨pre, s1, s2, e1, e2, e3, e4⟩ => ⟨pre, s1, s2, e1, e2, softS_mono W.tm (softT_mono W n) (fun l l0 h0 hz => zero_softT h0 hz) e3,
   softS_mono W.cs (fun l ⟨lp, lb, f1, f2, f3, f4⟩ => ⟨lp, lb, f1, f2, softP_mono W n lp f3, softT_mono W n lb f4⟩) (fun l l0 ⟨lp, lb, f1, f2, f3, f4⟩ ⟨zp, zb, g1, g2, g3⟩ => ⟨zp, zb, g1, by
    obtain ⟨pre, a, cap, rfl, hp⟩ := g2
    simp [hp], zero_softP f3 g2, zero_softT f4 g3⟩) e4⟩
end
end Go.Proofs.YtkcgkignhpepkaaGreatDoor

/- Fresh trees may be spoilt. -/
namespace Go.Proofs.YtkcgkignhpepkaaGreatDoor
open Go Hs
section
variable {D : Nat → Nat → Prop} {w : World} {m hi : Nat}
theorem prs_el {k : Nat} {E : TypeId} : ∀ {ps : List Pu} {x : List Value}, PRs Tryz.prog D w (List.replicate ps.length (k, E)) ps x → x.length = ps.length * k ∧ ∀ (i : Nat) p, ps[i]? = some p → PR Tryz.prog D w p ((x.drop (i * k)).take k)
 | [], _, .nil => ⟨by simp, fun i p h => by simp at h⟩
 | p :: ps, _, .cons (x := x) (y := y) hp hs _ h => by
  obtain ⟨h1, h2⟩ := prs_el (ps := ps) h
  refine ⟨by simp [h1, hs, Nat.succ_mul]; omega, fun i q hq => ?_⟩
  cases i with
  | zero =>
   simp at hq
   subst hq
   simp [← hs]
   exact hp
  | succ i =>
   simp at hq
   have := h2 i q hq
   rw [Nat.succ_mul, List.drop_append, List.drop_eq_nil_of_le (by omega), List.nil_append, hs, Nat.add_sub_cancel];exact this
theorem softS_of {E : TypeId} {k : Nat} {S : List Value → Prop} (hm : 0 < m) (hh : w.heap.size ≤ hi) (hk : Tryz.prog.cellsOf E = k) {ps : List Pu} {s : Value} (h : PR Tryz.prog D w (.sl m E ps) [s]) (hln : ps.length < 1099511627776) (hS : ∀ (i : Nat) p l, ps[i]? = some p → PR Tryz.prog D w p l → S l) : softS m hi w E k S s := by
 subst hk
 cases h with
 | sl0 => exact .inl ⟨_, _, rfl⟩
 | @sl _ _ _ b o cap x hn hcap h hx hlo =>
  rcases hlo with rfl | ⟨h1, rfl, c, h2⟩
  ·omega
  obtain ⟨g1, g2⟩ := prs_el h
  have hc : ∀ j v, x[j]? = some v → c[j]? = some v := fun j v hj => by
   have := (hx j v hj).1
   rw [Nat.zero_add, cell_of_cells h2] at this
   exact this
  have hsz : ps.length * Tryz.prog.cellsOf E ≤ c.size := by
   refine Nat.le_of_not_lt fun hlt => ?_
   have hj : c.size < x.length := by omega
   have := hc c.size x[c.size] (List.getElem?_eq_getElem hj)
   simp at this
  refine .inr ⟨b, ps.length, cap, c, rfl, hln, h1, Nat.lt_of_lt_of_le (heap_lt h2) hh, h2, hsz, fun i hin => ?_⟩
  have := hS i ps[i] _ (List.getElem?_eq_getElem hin) (g2 i ps[i] (List.getElem?_eq_getElem hin))
  have e : el c (Tryz.prog.cellsOf E) i = (x.drop (i * Tryz.prog.cellsOf E)).take (Tryz.prog.cellsOf E) := by
   have hle : (i + 1) * Tryz.prog.cellsOf E ≤ ps.length * Tryz.prog.cellsOf E := Nat.mul_le_mul_right _ hin
   rw [Nat.succ_mul] at hle
   refine List.ext_getElem? fun j => ?_
   rw [el_get, List.getElem?_take, List.getElem?_drop]
   split
   ·have hj : i * Tryz.prog.cellsOf E + j < x.length := by omega
    rw [List.getElem?_eq_getElem hj];exact hc _ _ (List.getElem?_eq_getElem hj)
   ·rfl
  rw [e];exact this
theorem sl_one {E : TypeId} {lo : Nat} {ps : List Pu} {l : List Value} (h : PR Tryz.prog D w (.sl lo E ps) l) : ∃ s, l = [s] := by
 cases h with
 | sl0 => exact ⟨_, rfl⟩
 | sl => exact ⟨_, rfl⟩
theorem compsP : comps Tryz.prog 104 = some [(1, 3), (1, 3), (32, 28), (1, 102)] := by kernel_rfl
theorem compsT : comps Tryz.prog 32 = some [(1, 3), (1, 3), (32, 28), (1, 29), (1, 30)] := by kernel_rfl
theorem compsC : comps Tryz.prog 106 = some [(35, 104), (36, 32)] := by kernel_rfl
theorem softP_of (hm : 0 < m) (hh : w.heap.size ≤ hi) : ∀ (N : Nat) (p : Pat) (l : List Value), psize p ≤ N → N < 1099511627776 → PR Tryz.prog D w (patc m p) l → softP m hi w N l := by
 intro N
 induction N with
 | zero => intro p l h; cases p; simp [psize] at h
 | succ N ih =>
  rintro ⟨k, n, r, ks⟩ l hN hb h
  simp only [psize] at hN
  unfold patc at h
  cases h with
  | agg hc h =>
   rw [compsP] at hc
   simp only [Option.some.injEq] at hc
   subst hc
   cases h with | @cons _ _ _ _ _ x0 _ _ s0 _ h =>
   cases h with | @cons _ _ _ _ _ x1 _ _ s1 _ h =>
   cases h with | @cons _ _ _ _ _ x2 _ _ s2 _ h =>
   cases h with | @cons _ _ _ _ _ x3 _ h3 s3 _ h =>
   cases h
   obtain ⟨s, rfl⟩ := sl_one h3
   refine ⟨x0 ++ x1 ++ x2, s, by simp, by simp [s0, s1, s2], softS_of hm hh (by kernel_rfl) h3 (by rw [pats_length]; have := length_psizeL ks; omega) fun i p l hi hp => ?_⟩
   rw [pats_eq, List.getElem?_map] at hi
   cases hk : ks[i]? with
   | none => simp [hk] at hi
   | some q =>
    simp [hk] at hi
    subst hi
    obtain ⟨hlt, e⟩ := List.getElem?_eq_some_iff.1 hk
    have := psizeL_get hlt
    rw [e] at this
    exact ih q l (by omega) (by omega) hp
theorem softT_of (hm : 0 < m) (hh : w.heap.size ≤ hi) : ∀ (N : Nat) (t : Tm) (l : List Value), tsize t ≤ N → N < 1099511627776 → PR Tryz.prog D w (tmc m t) l → softT m hi w N l := by
 intro N
 induction N with
 | zero => intro p l h; cases p; simp [tsize] at h
 | succ N ih =>
  rintro ⟨k, n, r, ks, cs⟩ l hN hb h
  simp only [tsize] at hN
  unfold tmc at h
  cases h with
  | agg hc h =>
   rw [compsT] at hc
   simp only [Option.some.injEq] at hc
   subst hc
   cases h with | @cons _ _ _ _ _ x0 _ _ s0 _ h =>
   cases h with | @cons _ _ _ _ _ x1 _ _ s1 _ h =>
   cases h with | @cons _ _ _ _ _ x2 _ _ s2 _ h =>
   cases h with | @cons _ _ _ _ _ x3 _ h3 s3 _ h =>
   cases h with | @cons _ _ _ _ _ x4 _ h4 s4 _ h =>
   cases h
   obtain ⟨s, rfl⟩ := sl_one h3
   obtain ⟨s', rfl⟩ := sl_one h4
   refine ⟨x0 ++ x1 ++ x2, s, s', by simp, by simp [s0, s1, s2], softS_of hm hh (by kernel_rfl) h3 (by rw [tms_length]; have := length_tsizeL ks; omega) fun i p l hi hp => ?_, softS_of hm hh (by kernel_rfl) h4 (by rw [css_length]; have := length_csizeL cs; omega) fun i p l hi hp => ?_⟩
   ·rw [tms_eq, List.getElem?_map] at hi
    cases hk : ks[i]? with
    | none => simp [hk] at hi
    | some q =>
     simp [hk] at hi
     subst hi
     obtain ⟨hlt, e⟩ := List.getElem?_eq_some_iff.1 hk
     have := tsizeL_get hlt
     rw [e] at this
     exact ih q l (by omega) (by omega) hp
   ·rw [css_eq, List.getElem?_map] at hi
    cases hk : cs[i]? with
    | none => simp [hk] at hi
    | some q =>
     simp [hk] at hi
     subst hi
     obtain ⟨hlt, e⟩ := List.getElem?_eq_some_iff.1 hk
     have := csizeL_get hlt
     rw [e] at this
     obtain ⟨p, t⟩ := q
     simp only [csize] at this
     unfold csec at hp
     cases hp with
     | agg hc hp =>
      rw [compsC] at hc
      simp only [Option.some.injEq] at hc
      subst hc
      cases hp with | @cons _ _ _ _ _ lp _ hp s0 _ h =>
      cases h with | @cons _ _ _ _ _ lb _ hq s1 _ h =>
      cases h
      exact ⟨lp, lb, by simp, s0, softP_of hm hh N p lp (by omega) (by omega) hp, ih t lb (by omega) (by omega) hq⟩
end
end Go.Proofs.YtkcgkignhpepkaaGreatDoor

/- SpoilTerm: it writes in what may be spoilt alone. -/
namespace Go.Proofs.YtkcgkignhpepkaaGreatDoor
open Go Hs
def nilSl : Value := .slice none 0 0
def zerP (k : Int) : List Value := [.int .i64 k, .int .i64 0] ++ List.replicate 32 (.int .u8 0) ++ [nilSl]
def zerT (k : Int) : List Value := [.int .i64 k, .int .i64 0] ++ List.replicate 32 (.int .u8 0) ++ [nilSl, nilSl]
def zerC : List Value := zerP 0 ++ zerT 0
theorem build_P (w : World) : (Instr.build 104 #[(0, .int .i64 98)]).run Tryz.prog w = .ok (.agg (zerP 98).toArray) w := by kernel_rfl
theorem build_T (w : World) : (Instr.build 32 #[(0, .int .i64 98)]).run Tryz.prog w = .ok (.agg (zerT 98).toArray) w := by kernel_rfl
theorem build_C (w : World) : (Instr.build 106 #[]).run Tryz.prog w = .ok (.agg zerC.toArray) w := by kernel_rfl
theorem zerP_zero (k : Int) : zeroP (zerP k) := ⟨[.int .i64 k, .int .i64 0] ++ List.replicate 32 (.int .u8 0), none, 0, rfl, by simp⟩
theorem zerT_zero (k : Int) : zeroT (zerT k) := ⟨[.int .i64 k, .int .i64 0] ++ List.replicate 32 (.int .u8 0), none, 0, none, 0, rfl, by simp⟩
theorem zerC_zero : zeroC zerC := ⟨_, _, rfl, zerP_zero 0, zerT_zero 0⟩
theorem el_cell {w : World} {b k i : Nat} {c : Array Value} {E : TypeId} (h : w.heap[b]? = some (.cells c E (0, 0))) : ∀ j v, (el c k i)[j]? = some v → w.cell? ⟨b, i * k + j, none⟩ = some v := fun j v hj => by
 rw [el_get] at hj
 rw [cell_of_cells h]
 split at hj
 ·exact hj
 ·cases hj
theorem Wore.tmSet {m hi : Nat} {w : World} {b i : Nat} {c : Array Value} {v : List Value} (hb : w.heap[b]? = some (.cells c 32 (0, 0))) (hv : v.length = 36) (hf : (i + 1) * 36 ≤ c.size) (hz : zeroT v) : Wore m hi w (w.setRow b (c.toList.take (i * 36) ++ v ++ c.toList.drop (i * 36 + 36)).toArray) :=
 ⟨Wore1.set hb hv hf hz (fun e => by cases e) (fun e => by cases e), Wore1.set hb hv hf hz (fun _ => rfl) (fun _ _ h => h), Wore1.set hb hv hf hz (fun e => by cases e) (fun e => by cases e)⟩
theorem Wore.csSet {m hi : Nat} {w : World} {b i : Nat} {c : Array Value} {v : List Value} (hb : w.heap[b]? = some (.cells c 106 (0, 0))) (hv : v.length = 71) (hf : (i + 1) * 71 ≤ c.size) (hz : zeroC v) : Wore m hi w (w.setRow b (c.toList.take (i * 71) ++ v ++ c.toList.drop (i * 71 + 71)).toArray) :=
 ⟨Wore1.set hb hv hf hz (fun e => by cases e) (fun e => by cases e), Wore1.set hb hv hf hz (fun e => by cases e) (fun e => by cases e), Wore1.set hb hv hf hz (fun _ => rfl) (fun _ _ h => h)⟩
theorem Wore.ptSet {m hi : Nat} {w : World} {b i : Nat} {c : Array Value} {v : List Value} (hb : w.heap[b]? = some (.cells c 104 (0, 0))) (hv : v.length = 35) (hf : (i + 1) * 35 ≤ c.size) (hz : zeroP v) : Wore m hi w (w.setRow b (c.toList.take (i * 35) ++ v ++ c.toList.drop (i * 35 + 35)).toArray) :=
 ⟨Wore1.set hb hv hf hz (fun _ => rfl) (fun _ _ h => h), Wore1.set hb hv hf hz (fun e => by cases e) (fun e => by cases e), Wore1.set hb hv hf hz (fun e => by cases e) (fun e => by cases e)⟩
theorem soft_tms {m hi n : Nat} {w w' : World} {x : Value} (W : Wore m hi w w') (h : softS m hi w 32 36 (softT m hi w n) x) : softS m hi w' 32 36 (softT m hi w' n) x := softS_mono W.tm (softT_mono W n) (fun _ _ h0 hz => zero_softT h0 hz) h
theorem soft_pts {m hi n : Nat} {w w' : World} {x : Value} (W : Wore m hi w w') (h : softS m hi w 104 35 (softP m hi w n) x) : softS m hi w' 104 35 (softP m hi w' n) x := softS_mono W.pt (softP_mono W n) (fun _ _ h0 hz => zero_softP h0 hz) h
theorem soft_css {m hi n : Nat} {w w' : World} {x : Value} (W : Wore m hi w w') (h : softS m hi w 106 71 (softC m hi w n (softT m hi w n)) x) : softS m hi w' 106 71 (softC m hi w' n (softT m hi w' n)) x :=
 softS_mono W.cs (fun _ ⟨lp, lb, f1, f2, f3, f4⟩ => ⟨lp, lb, f1, f2, softP_mono W n lp f3, softT_mono W n lb f4⟩) (fun _ _ ⟨_, _, _, _, f3, f4⟩ ⟨zp, zb, g1, g2, g3⟩ => ⟨zp, zb, g1, by
    obtain ⟨pre, a, cap, rfl, hp⟩ := g2
    simp [hp], zero_softP f3 g2, zero_softT f4 g3⟩) h
theorem spoil_c : ∀ (n m hi : Nat) (w : World) (l : List Value), softT m hi w n l → hi ≤ w.heap.size → Calls Tryz.prog 51 #[.agg l.toArray] w fun e w' => (∃ v, e = .returned v) ∧ Keep m hi w w' ∧ Wore m hi w w' := by
 intro n
 induction n with
 | zero => intro m hi w l h; exact h.elim
 | succ n ih =>
 rintro m hi w L ⟨pre, s1, s2, hL, hp, hs1, hs2⟩ hh
 obtain ⟨a1, n1, cap1, rfl, hn1, _⟩ := softS_view hs1
 obtain ⟨a2, n2, cap2, rfl, hn2, _⟩ := softS_view hs2
 obtain ⟨B, hB⟩ : ∃ B, B = w.heap.size := ⟨_, rfl⟩
 obtain ⟨w1, hw1⟩ : ∃ w1, w1 = w.alloc (.cells L.toArray 32) := ⟨_, rfl⟩
 have gr : Grew w w1 := by rw [hw1]; exact Grew.alloc w _
 have W1 : Wore m hi w w1 := Wore.grew gr hh
 have hsz1 : B < w1.heap.size := by rw [hw1, hB]; simp
 have hB1 : w1.heap[B]? = some (.cells L.toArray 32 (0, 0)) := by rw [hw1, hB]; exact alloc_heap_new w _
 have cells : ∀ {w2 : World}, Keep m hi w1 w2 → w2.cell? ⟨B, 0 + 34, none⟩ = some (.slice a1 n1 cap1) ∧ w2.cell? ⟨B, 0 + 35, none⟩ = some (.slice a2 n2 cap2) := fun {w2} k => by
  have hb := (k.block B hsz1 (by omega)).trans hB1
  rw [cell_of_cells hb, cell_of_cells hb]
  simp [hL, List.getElem?_append, hp]
 refine calls_of_rtri 64 Tryz.func51 rfl rfl [(0, .agg L.toArray)] (fun i v hv => ?_) ?_
 ·rw [get_cons] at hv
  split at hv
  ·rename_i e; subst e; simpa using hv
  ·cases hv
 repeat refine RTri.seq ?_
 refine RTri.region ?_;refine q_box rfl (by decide) ?_;refine RL.nil ?_;rw [show Value.cells (Value.agg L.toArray) = L.toArray from rfl, ← hw1, ← hB]
 have K0 := Keep.refl m hi w1
 repeat refine RTri.seq ?_
 refine RTri.region ?_;refine q_field tbl (off := 34) rfl (by kernel_rfl) (by decide) ?_;refine q_load1 tbl (cells K0).1 rfl (by kernel_rfl) (by decide) ?_;refine q_len (E := 32) rfl (by kernel_rfl) (by decide) ?_;refine q_move rfl (by decide) ?_;refine RL.nil ?_
 repeat refine RTri.seq ?_
 refine RTri.block ?_;refine RTri.loop (σ := Nat) (fun i env w2 => i ≤ n1 ∧ subE [(8, .int .i64 (i : Nat)), (7, .int .i64 n1), (1, .pointer (some ⟨B, 0, none⟩))] env ∧ Keep m hi w1 w2 ∧ Wore m hi w1 w2) (fun i => n1 - i) 0 ⟨Nat.zero_le _, ⟨rfl, rfl, rfl, trivial⟩, K0, Wore.refl⟩ ?_
 rintro i env w2 ⟨hi1, henv, Ki, Wi⟩
 refine RTri.less ?_ henv.get;clear henv env
 repeat refine RTri.seq ?_
 refine RTri.region ?_;refine q_lt tbl rfl rfl (by decide) ?_;refine RL.nil ?_
 repeat refine RTri.seq ?_
 refine RTri.cond rfl (fun hb => RTri.skip ?_) (fun hb => RTri.exit ?_)
 ·have hi' : i < n1 := of_decide_eq_true hb
  obtain ⟨a, n', cap', e, _, hv⟩ := softS_view (soft_tms (W1.trans Wi) hs1)
  simp only [Value.slice.injEq] at e
  obtain ⟨rfl, rfl, rfl⟩ := e
  obtain ⟨b, c, rfl, h1, h2, h3, h4, h5⟩ := hv i hi'
  repeat refine RTri.seq ?_
  refine RTri.block ?_
  repeat refine RTri.seq ?_
  refine RTri.region ?_;refine q_move rfl (by decide) ?_;refine q_assign rfl (by decide) ?_;refine RL.nil ?_
  repeat refine RTri.seq ?_
  refine RTri.region ?_;refine q_field tbl (off := 34) rfl (by kernel_rfl) (by decide) ?_;refine q_load1 tbl (cells Ki).1 rfl (by kernel_rfl) (by decide) ?_;refine q_move rfl (by decide) ?_;refine q_index tbl (E := 32) (sz := 36) hi' rfl rfl (by kernel_rfl) (by kernel_rfl) (by decide) ?_;refine q_loadA tbl (el_cell h3) ((el_len h4).trans (by kernel_rfl)) rfl (by kernel_rfl) (by decide) ?_;refine RL.call rfl rfl rfl (by decide) #[.agg (el c 36 i).toArray] (fun _ ha => x_call (by kernel_rfl) rfl rfl rfl ha) ?_
  refine (ih m hi w2 _ h5 (Nat.le_trans hh (Nat.le_trans gr.size Ki.size))).mono fun e w3 ⟨⟨v, he⟩, K3, W3⟩ => ⟨v, he, ?_⟩
  have Kj := Ki.trans K3
  obtain ⟨c3, g3, g4, _⟩ := W3.tm b c h1 h2 h3
  refine RL.nil ?_;refine RTri.region ?_;refine q_field tbl (off := 34) rfl (by kernel_rfl) (by decide) ?_;refine q_load1 tbl (cells Kj).1 rfl (by kernel_rfl) (by decide) ?_;refine q_move rfl (by decide) ?_;refine q_build build_T (by simp [evR]) (by decide) ?_;refine q_index tbl (E := 32) (sz := 36) hi' rfl rfl (by kernel_rfl) (by kernel_rfl) (by decide) ?_;refine q_store tbl (sz := 36) g3 (by omega) rfl rfl rfl rfl (by kernel_rfl) ?_;refine RL.nil ?_;refine RTri.region ?_;refine q_add tbl rfl (by omega) (by decide) ?_;refine q_move rfl (by decide) ?_;refine RL.nil ?_
  exact ⟨i + 1, by omega, by omega, ⟨rfl, rfl, rfl, trivial⟩, Kj.trans (Keep.setRow g3 h1 h2), (Wi.trans W3).trans (Wore.tmSet g3 rfl (by omega) (zerT_zero 98))⟩
 have WI := W1.trans Wi
 clear hb hi1
 repeat refine RTri.seq ?_
 refine RTri.region ?_;refine q_field tbl (off := 35) rfl (by kernel_rfl) (by decide) ?_;refine q_load1 tbl (cells Ki).2 rfl (by kernel_rfl) (by decide) ?_;refine q_len (E := 106) rfl (by kernel_rfl) (by decide) ?_;refine q_move rfl (by decide) ?_;refine RL.nil ?_
 repeat refine RTri.seq ?_
 refine RTri.block ?_;refine RTri.loop (σ := Nat) (fun i env w2 => i ≤ n2 ∧ subE [(26, .int .i64 (i : Nat)), (25, .int .i64 n2), (1, .pointer (some ⟨B, 0, none⟩))] env ∧ Keep m hi w1 w2 ∧ Wore m hi w w2) (fun i => n2 - i) 0 ⟨Nat.zero_le _, ⟨rfl, rfl, rfl, trivial⟩, Ki, WI⟩ ?_;clear Ki Wi WI w2 i
 rintro i env w2 ⟨hi1, henv, Ki, Wi⟩
 refine RTri.less ?_ henv.get;clear henv env
 repeat refine RTri.seq ?_
 refine RTri.region ?_;refine q_lt tbl rfl rfl (by decide) ?_;refine RL.nil ?_
 repeat refine RTri.seq ?_
 refine RTri.cond rfl (fun hb => RTri.skip ?_) (fun hb => RTri.exit ?_)
 ·have hi' : i < n2 := of_decide_eq_true hb
  obtain ⟨a, n', cap', e, _, hv⟩ := softS_view (soft_css Wi hs2)
  simp only [Value.slice.injEq] at e
  obtain ⟨rfl, rfl, rfl⟩ := e
  obtain ⟨b, c, rfl, h1, h2, h3, h4, lp, lb, h5, h6, _, h7⟩ := hv i hi'
  have hbody : ∀ j v, lb[j]? = some v → w2.cell? ⟨b, i * 71 + 35 + j, none⟩ = some v := fun j v hj => by
   have := el_cell h3 (35 + j) v (by rw [h5, List.getElem?_append_right (by omega), h6]; simpa using hj)
   simpa [Nat.add_assoc] using this
  have hlb : lb.length = 36 := by
   have := el_len h4
   rw [h5, List.length_append] at this
   omega
  repeat refine RTri.seq ?_
  refine RTri.block ?_
  repeat refine RTri.seq ?_
  refine RTri.region ?_;refine q_move rfl (by decide) ?_;refine q_assign rfl (by decide) ?_;refine RL.nil ?_
  repeat refine RTri.seq ?_
  refine RTri.region ?_;refine q_field tbl (off := 35) rfl (by kernel_rfl) (by decide) ?_;refine q_load1 tbl (cells Ki).2 rfl (by kernel_rfl) (by decide) ?_;refine q_move rfl (by decide) ?_;refine q_index tbl (E := 106) (sz := 71) hi' rfl rfl (by kernel_rfl) (by kernel_rfl) (by decide) ?_;refine q_field tbl (off := 35) rfl (by kernel_rfl) (by decide) ?_;refine q_loadA tbl hbody (hlb.trans (by kernel_rfl)) rfl (by kernel_rfl) (by decide) ?_;refine RL.call rfl rfl rfl (by decide) #[.agg lb.toArray] (fun _ ha => x_call (by kernel_rfl) rfl rfl rfl ha) ?_
  refine (ih m hi w2 _ h7 (Nat.le_trans hh (Nat.le_trans gr.size Ki.size))).mono fun e w3 ⟨⟨v, he⟩, K3, W3⟩ => ⟨v, he, ?_⟩
  have Kj := Ki.trans K3
  have Wj := Wi.trans W3
  clear h3 h4 h5 h6 h7 hbody hlb hv
  obtain ⟨_, _, _, e, _, hv⟩ := softS_view (soft_css Wj hs2)
  simp only [Value.slice.injEq] at e
  obtain ⟨rfl, rfl, rfl⟩ := e
  obtain ⟨b', c, e, h1, h2, h3, h4, lp, lb, h5, h6, h7, _⟩ := hv i hi'
  simp only [Option.some.injEq, Addr.mk.injEq, and_true] at e
  subst e
  cases n with
  | zero => exact h7.elim
  | succ n' =>
  obtain ⟨pre', s, rfl, hp', hs3⟩ := h7
  obtain ⟨a3, n3, cap3, rfl, hn3, _⟩ := softS_view hs3
  have hkid : ∀ {w5 : World}, w5.heap[b]? = some (.cells c 106 (0, 0)) → w5.cell? ⟨b, i * 71 + 0 + 34, none⟩ = some (.slice a3 n3 cap3) := fun {w5} h => by
   have := el_cell h (k := 71) (i := i) 34 (.slice a3 n3 cap3) (by rw [h5, List.getElem?_append_left (by omega), List.getElem?_append_right (by omega), hp']; rfl)
   simpa [Nat.add_assoc] using this
  refine RL.nil ?_
  repeat refine RTri.seq ?_
  refine RTri.region ?_;refine q_field tbl (off := 35) rfl (by kernel_rfl) (by decide) ?_;refine q_load1 tbl (cells Kj).2 rfl (by kernel_rfl) (by decide) ?_;refine q_move rfl (by decide) ?_;refine q_index tbl (E := 106) (sz := 71) hi' rfl rfl (by kernel_rfl) (by kernel_rfl) (by decide) ?_;refine q_field tbl (off := 0) rfl (by kernel_rfl) (by decide) ?_;refine q_field tbl (off := 34) rfl (by kernel_rfl) (by decide) ?_;refine q_load1 tbl (hkid h3) rfl (by kernel_rfl) (by decide) ?_;refine q_len (E := 104) rfl (by kernel_rfl) (by decide) ?_;refine q_move rfl (by decide) ?_;refine RL.nil ?_
  repeat refine RTri.seq ?_
  refine RTri.block ?_;refine RTri.loop (σ := Nat) (fun k env w5 => k ≤ n3 ∧ subE [(44, .int .i64 (k : Nat)), (43, .int .i64 n3), (26, .int .i64 (i : Nat)), (25, .int .i64 n2), (3, .int .i64 (i : Nat)), (1, .pointer (some ⟨B, 0, none⟩))] env ∧ Keep m hi w1 w5 ∧ Wore m hi w3 w5 ∧ w5.heap[b]? = some (.cells c 106 (0, 0))) (fun k => n3 - k) 0 ⟨Nat.zero_le _, ⟨rfl, rfl, rfl, rfl, rfl, rfl, trivial⟩, Kj, Wore.refl, h3⟩ ?_
  rintro k env w5 ⟨hk1, henv, K5, W5, hb5⟩
  refine RTri.less ?_ henv.get;clear henv env
  repeat refine RTri.seq ?_
  refine RTri.region ?_;refine q_lt tbl rfl rfl (by decide) ?_;refine RL.nil ?_
  repeat refine RTri.seq ?_
  refine RTri.cond rfl (fun hb => RTri.skip ?_) (fun hb => RTri.exit ?_)
  ·have hk' : k < n3 := of_decide_eq_true hb
   obtain ⟨_, _, _, e, _, hv⟩ := softS_view (soft_pts W5 hs3)
   simp only [Value.slice.injEq] at e
   obtain ⟨rfl, rfl, rfl⟩ := e
   obtain ⟨b6, c6, rfl, f1, f2, f3, f4, _⟩ := hv k hk'
   have hne : b ≠ b6 := fun e => by
    subst e
    rw [hb5] at f3
    cases f3
   repeat refine RTri.seq ?_
   refine RTri.block ?_
   repeat refine RTri.seq ?_
   refine RTri.region ?_;refine q_move rfl (by decide) ?_;refine q_assign rfl (by decide) ?_;refine RL.nil ?_
   repeat refine RTri.seq ?_
   refine RTri.region ?_;refine q_field tbl (off := 35) rfl (by kernel_rfl) (by decide) ?_;refine q_load1 tbl (cells K5).2 rfl (by kernel_rfl) (by decide) ?_;refine q_move rfl (by decide) ?_;refine q_index tbl (E := 106) (sz := 71) hi' rfl rfl (by kernel_rfl) (by kernel_rfl) (by decide) ?_;refine q_field tbl (off := 0) rfl (by kernel_rfl) (by decide) ?_;refine q_field tbl (off := 34) rfl (by kernel_rfl) (by decide) ?_;refine q_load1 tbl (hkid hb5) rfl (by kernel_rfl) (by decide) ?_;refine q_move rfl (by decide) ?_;refine q_build build_P (by simp [evR]) (by decide) ?_
   refine q_index tbl (E := 104) (sz := 35) hk' rfl rfl (by kernel_rfl) (by kernel_rfl) (by decide) ?_;refine q_store tbl (sz := 35) f3 f4 rfl rfl rfl rfl (by kernel_rfl) ?_;refine RL.nil ?_;refine RTri.region ?_;refine q_add tbl rfl (by omega) (by decide) ?_;refine q_move rfl (by decide) ?_;refine RL.nil ?_;exact ⟨k + 1, by omega, by omega, ⟨rfl, rfl, rfl, rfl, rfl, rfl, trivial⟩, K5.trans (Keep.setRow f3 f1 f2), W5.trans (Wore.ptSet f3 rfl f4 (zerP_zero 98)), (setRow_ne w5 b6 _ hne).trans hb5⟩
  ·refine RTri.region ?_
   refine q_field tbl (off := 35) rfl (by kernel_rfl) (by decide) ?_;refine q_load1 tbl (cells K5).2 rfl (by kernel_rfl) (by decide) ?_;refine q_move rfl (by decide) ?_;refine q_build build_C (by simp) (by decide) ?_;refine q_index tbl (E := 106) (sz := 71) hi' rfl rfl (by kernel_rfl) (by kernel_rfl) (by decide) ?_;refine q_store tbl (sz := 71) hb5 h4 rfl rfl rfl rfl (by kernel_rfl) ?_;refine RL.nil ?_;refine RTri.region ?_;refine q_add tbl rfl (by omega) (by decide) ?_;refine q_move rfl (by decide) ?_;refine RL.nil ?_
   exact ⟨i + 1, by omega, by omega, ⟨rfl, rfl, rfl, trivial⟩, K5.trans (Keep.setRow hb5 h1 h2), (Wj.trans W5).trans (Wore.csSet hb5 rfl h4 zerC_zero)⟩
 ·have hr : Tryz.f51.results = #[] := rfl
  exact ⟨.inl rfl, fun a ha => ⟨.tuple #[], by simp [results, hr], ⟨_, rfl⟩, (Keep.of_grew gr).trans Ki, Wi⟩⟩
end Go.Proofs.YtkcgkignhpepkaaGreatDoor

/- The reference: closed terms put for variables. -/
namespace Go.Proofs.YtkcgkignhpepkaaGreatDoor
open Go Hs
variable {G : List (Nat × TypeId × Pu)}
theorem rmoved_c : ∀ (N : Nat) (t : Tm), tsize t ≤ N → N < 2^30 → ∀ (d b : Int), gdT d t → 0 ≤ d → d + 2 * tsize t ≤ 2^42 →
  FCall Tryz.prog G 246 [.pu (tmc 0 t), iv .i64 d, iv .i64 b, iv .i64 0] (.pu (tmc 0 t)) := by
 intro N
 induction N with
 | zero => intro t h; have := tsize_pos t; omega
 | succ N ih =>
 intro t hp hN d by' hg hd0 hd1
 obtain ⟨k, n, r, ks, cs⟩ := t
 simp only [tsize] at hp hd1
 have hlen := length_tsizeL ks
 have hlenc := length_csizeL cs
 have hK := fun j x hx => gdK_mem hg.2.2.2.2.1 (j := j) (x := x) hx
 have hC := gdC_mem hg.2.2.2.2.2
 refine FCall.of_tri tbl 100 Tryz.func246 rfl rfl rfl fun w0 M ρ0 D0 => ?_
 refine yR ?_;refine s_box SS 4 ?_;refine s_alloc SS 8 ?_;refine e_seqN [4, 8] ?_;refine yR ?_;refine yF ?_;refine yL ?_;refine yF ?_;refine yL ?_;refine yF ?_;refine yL ?_;refine yP ?_;refine s_alloc SS 9 ?_;refine yS ?_;refine e_seqN [9] ?_;refine yR ?_;refine yF ?_;refine yL ?_;refine yI ?_;refine yM ?_;refine xF ?_;refine xL ?_;refine xM ?_;refine xI ?_;refine xM ?_;refine xI ?_;refine yN ?_;refine e_seq ?_;refine tQ ?_;refine Tri.cond rfl (fun h0 => ?_) (fun h0 => ?_)
 ·exfalso
  have hv := hg.2.2.2.1
  simp at h0
  have := hv h0.1
  rw [wrap64 (by omega) (by omega)] at h0
  omega
 ·skip
  refine Tri.skip ?_;refine yR ?_;refine yB ?_;refine e_seq ?_;refine tQ ?_;refine Tri.block (Tri.loopW (σ := Nat) (fun i => ⟨[(1, iv .i64 d), (2, iv .i64 by'), (3, iv .i64 0), (4, .ptr 4 [] 32), (8, .ptr 8 [] 32), (9, .ptr 9 [] 32), (10, iv .i64 i)], [(4, .var 32 (.pu (tmc 0 (.mk k n r ks cs)))), (8, .var 32 (.agg 32 [iv .i64 0, iv .i64 0, .pu (refP Z32), .nilc, .nilc])), (9, .var 32 (.agg 32 [iv .i64 k, iv .i64 n, .pu (refP r), .ow 0 32 (tmsc 0 (ks.take i)), .ow 0 106 []]))]⟩) (fun i => ks.length - i) 0 ?_ ?_ (fun i => ?_))
  ·repeat (first | exact .nil | refine .cons rfl (by first | exact .refl | (focus ((repeat constructor); done)) | (exact .var (.agg (.cons .refl (.cons .refl (.cons .refl (.cons .nilcOw (.cons .nilcOw .nil)))))))) ?_)
  ·repeat (first | exact .nil | refine .cons rfl (by first | exact .refl | (focus ((repeat constructor); done)) | (exact .var (.agg (.cons .refl (.cons .refl (.cons .refl (.cons .nilcOw (.cons .nilcOw .nil)))))))) ?_)
  refine yR ?_;refine yM ?_;refine yF ?_;refine yK ?_;refine yC ?_;refine yI ?_;refine e_seq ?_;refine tQ ?_;refine Tri.cond rfl (fun h1 => ?_) (fun h1 => ?_)
  ·skip
   have hi : i < ks.length := by rw [tms_length] at h1; simpa using h1
   have hmo := more_b k i
   have hsz := tsize_mem (List.getElem_mem hi)
   have hgi := hK i ks[i] (List.getElem?_eq_getElem hi)
   rw [Nat.zero_add] at hgi
   have hts : tmsc 0 (ks.take (i + 1)) = tmsc 0 (ks.take i) ++ [tmc 0 ks[i]] := by
    rw [tms_eq, tms_eq, List.take_succ_eq_append_getElem hi, List.map_append]; rfl
   refine Tri.skip ?_;refine tQ ?_;refine Tri.block ?_;refine yR ?_;refine yF ?_;refine yK ?_;refine yF ?_;refine yK ?_;refine yM ?_;refine s_val (v_index SS (h0 := by omega) (hp := tms_get hi)) ?_;refine yL ?_;refine yM ?_;refine yF ?_;refine yL ?_;refine yM ?_;refine s_val (v_callD (fun _ => rmore_c k i)) ?_;refine yI ?_;refine yM ?_;refine yM ?_;refine s_val (v_callD (fun _ => ih ks[i] (by omega) (by omega) (d + moreM k i) by' hgi (by omega) (by omega))) ?_;refine yZ ?_;refine s_app2 9 [3] ?_ ?_
   ·simp [tms_eq]; omega
   refine yF ?_;refine yW ?_;refine e_draw ?_;refine yR ?_;refine yM ?_;refine yI ?_;refine yA ?_;refine e_seq ?_
   refine ⟨i + 1, by omega, le_of ?_ ?_⟩
   ·repeat (first | exact SubE.nil | refine SubE.cons rfl (by first | rfl | (rw [wrap64 (by omega) (by omega)]; rfl) | (rw [hts]; rfl)) ?_)
   ·repeat (first | exact SubH.nil | refine SubH.cons rfl (by first | rfl | (rw [wrap64 (by omega) (by omega)]; rfl) | (rw [hts]; rfl)) ?_)
  ·skip
   have hi : ks.length ≤ i := by rw [tms_length] at h1; simpa using h1
   rw [List.take_of_length_le hi];refine Tri.exit ?_;refine yR ?_;refine yB ?_;refine e_seq ?_;refine tQ ?_;refine Tri.block (Tri.loopW (σ := Nat) (fun i => ⟨[(1, iv .i64 d), (2, iv .i64 by'), (3, iv .i64 0), (4, .ptr 4 [] 32), (8, .ptr 8 [] 32), (9, .ptr 9 [] 32), (11, iv .i64 i)], [(4, .var 32 (.pu (tmc 0 (.mk k n r ks cs)))), (8, .var 32 (.agg 32 [iv .i64 0, iv .i64 0, .pu (refP Z32), .nilc, .nilc])), (9, .var 32 (.agg 32 [iv .i64 k, iv .i64 n, .pu (refP r), .ow 0 32 (tmsc 0 ks), .ow 0 106 (cssc 0 (cs.take i))]))]⟩) (fun i => cs.length - i) 0 ?_ ?_ (fun i => ?_))
   ·exact zW
   ·exact zW
   refine yR ?_;refine yM ?_;refine yF ?_;refine yK ?_;refine yC ?_;refine yI ?_;refine e_seq ?_;refine tQ ?_;refine Tri.cond rfl (fun h2 => ?_) (fun h2 => ?_)
   ·skip
    have hi : i < cs.length := by rw [css_length] at h2; simpa using h2
    have hsz := csize_mem (List.getElem_mem hi)
    have hget := css_get (lo := 0) hi
    have hgi := (hC cs[i] (List.getElem_mem hi)).2
    have hcs0 : cssc 0 (cs.take (i + 1)) = cssc 0 (cs.take i) ++ [csec 0 cs[i]] := by
     rw [css_eq, css_eq, List.take_succ_eq_append_getElem hi, List.map_append]; rfl
    generalize hci : cs[i] = ci at hget hsz hgi hcs0
    obtain ⟨q, b⟩ := ci
    simp only [csize] at hsz
    simp only [csP, csT] at hgi
    have hbb := binds_bound q
    refine Tri.skip ?_;refine tQ ?_;refine Tri.block ?_;refine yR ?_;refine yF ?_;refine yK ?_;refine yF ?_;refine yK ?_;refine yM ?_;refine s_val (v_index SS (h0 := by omega) (hp := hget)) ?_;refine yF ?_;refine yL ?_;refine s_val (v_callD (fun _ => refOwnPattern_c _ q (Nat.le_refl _) (by omega))) ?_;refine yF ?_;refine yK ?_;refine yM ?_;refine s_val (v_index SS (h0 := by omega) (hp := hget)) ?_;refine yF ?_;refine yL ?_;refine yM ?_;refine yF ?_;refine yK ?_;refine yM ?_;refine s_val (v_index SS (h0 := by omega) (hp := hget)) ?_;refine yF ?_;refine yL ?_
    refine s_val (v_callD (fun _ => rbound_c _ q (Nat.le_refl _) (by omega))) ?_;refine yI ?_;refine yM ?_;refine yM ?_;refine s_val (v_callD (fun _ => ih b (by omega) (by omega) (d + bindsM q) by' hgi (by omega) (by omega))) ?_;refine yP ?_;refine yZ ?_;refine s_app2 9 [4] ?_ ?_
    ·simp [css_eq]; omega
    refine yF ?_;refine yW ?_;refine e_draw ?_;refine yR ?_;refine yM ?_;refine yI ?_;refine yA ?_;refine e_seq ?_
    refine ⟨i + 1, by omega, le_of ?_ ?_⟩
    ·repeat (first | exact SubE.nil | refine SubE.cons rfl (by first | rfl | (rw [wrap64 (by omega) (by omega)]; rfl) | (rw [hcs0]; rfl)) ?_)
    ·repeat (first | exact SubH.nil | refine SubH.cons rfl (by first | rfl | (rw [wrap64 (by omega) (by omega)]; rfl) | (rw [hcs0]; rfl)) ?_)
   ·skip
    have hi : cs.length ≤ i := by rw [css_length] at h2; simpa using h2
    rw [List.take_of_length_le hi];refine Tri.exit ?_;refine yR ?_;refine yL ?_;refine yS ?_;refine e_seq ?_;refine tQ ?_;exact Tri.ret ⟨.inr rfl, ret1 rfl resV_cell (ToPu.imp (by repeat constructor))⟩
set_option maxHeartbeats 1000000 in
theorem rput_c (u : Tm) (hu : gdT 0 u) (hus : tsize u < 2^30) : ∀ (N : Nat) (t : Tm), tsize t ≤ N → N < 2^30 → ∀ (d e : Int), gdT e t → 0 ≤ d → d + 2 * tsize t ≤ 2^42 → e + 2 * tsize t ≤ 2^43 →
  FCall Tryz.prog G 232 [.pu (tmc 0 t), iv .i64 d, iv .i64 0, .pu (tmc 0 u)] (.pu (tmc 0 (putM [u] d t))) := by
 intro N
 induction N with
 | zero => intro t h; have := tsize_pos t; omega
 | succ N ih =>
 intro t hp hN d e hg hd0 hd1 he
 obtain ⟨k, n, r, ks, cs⟩ := t
 simp only [tsize] at hp hd1 he
 have hlen := length_tsizeL ks
 have hlenc := length_csizeL cs
 have hK := fun j x hx => gdK_mem hg.2.2.2.2.1 (j := j) (x := x) hx
 have hC := gdC_mem hg.2.2.2.2.2
 have hv := hg.2.2.2.1
 obtain ⟨out, hout⟩ : ∃ out, out = putK [u] d k 0 ks := ⟨_, rfl⟩
 have houtl : out.length = ks.length := by rw [hout, putK_len]
 refine FCall.of_tri tbl 113 Tryz.func232 rfl rfl rfl fun w0 M ρ0 D0 => ?_
 refine yR ?_;refine s_box SS 4 ?_;refine s_box SS 7 ?_;refine s_alloc SS 8 ?_;refine e_seqN [4, 7, 8] ?_;refine yR ?_;refine yF ?_;refine yL ?_;refine yI ?_;refine yM ?_;refine xF ?_;refine xL ?_;refine xM ?_;refine xM ?_;refine xI ?_;refine xI ?_;refine yN ?_;refine e_seq ?_;refine tQ ?_;refine Tri.cond rfl (fun h0 => ?_) (fun h0 => ?_)
 ·skip
  have hkn : k = 1 ∧ n = d := by simp at h0; obtain ⟨a, b⟩ := h0; rw [wrap64 (by omega) (by omega)] at b; exact ⟨a, by omega⟩
  have hput : putM [u] d (.mk k n r ks cs) = u := by
   have hw : IntKind.wrap .i64 (n - d) = 0 := by rw [hkn.2, Int.sub_self]; rfl
   simp only [putM, hw]
   rw [dif_pos ⟨hkn.1, by omega, by simp⟩, dif_pos (by simp)]
   rfl
  refine yR ?_;refine yL ?_;refine yM ?_;refine s_val (v_callD (fun _ => rmoved_c _ u (Nat.le_refl _) hus 0 d hu (by omega) (by omega))) ?_;refine yS ?_;refine e_seq ?_;refine tQ ?_;exact Tri.ret ⟨.inr rfl, ret1 rfl resV_cell (VImp.of_eq (by rw [hput]))⟩
 ·skip
  have h0' : ¬ (k = 1 ∧ n = d) := fun hkn => by
   obtain ⟨a, b⟩ := hkn
   subst a b
   simp at h0
   rw [wrap64 (by omega) (by omega)] at h0
   omega
  refine Tri.skip ?_;refine yR ?_;refine yF ?_;refine yL ?_;refine yF ?_;refine yL ?_;refine yF ?_;refine yL ?_;refine yP ?_;refine s_alloc SS 9 ?_;refine yS ?_;refine e_seqN [9] ?_;refine yR ?_;refine yF ?_;refine yL ?_;refine yI ?_;refine yM ?_;refine xF ?_;refine xL ?_;refine xM ?_;refine xM ?_;refine xI ?_;refine xI ?_;refine yN ?_;refine e_seq ?_;refine tQ ?_
  refine Tri.cutW (σ := {n' : Int // putM [u] d (.mk k n r ks cs) = .mk k n' r (putK [u] d k 0 ks) (putC [u] d cs)}) (fun n' => ⟨[(1, iv .i64 d), (2, iv .i64 0), (4, .ptr 4 [] 32), (7, .ptr 7 [] 32), (8, .ptr 8 [] 32), (9, .ptr 9 [] 32)], [(4, .var 32 (.pu (tmc 0 (.mk k n r ks cs)))), (7, .var 32 (.pu (tmc 0 u))), (8, .var 32 (.agg 32 [iv .i64 0, iv .i64 0, .pu (refP Z32), .nilc, .nilc])), (9, .var 32 (.agg 32 [iv .i64 k, iv .i64 n'.1, .pu (refP r), .nilc, .nilc]))]⟩) ?_ (fun n' => ?_)
  ·skip
   refine tQ ?_;refine Tri.cond rfl (fun h1 => ?_) (fun h1 => ?_)
   ·skip
    have hkn : k = 1 ∧ d < n := by simp at h1; obtain ⟨a, b⟩ := h1; have := hv a; rw [wrap64 (by omega) (by omega)] at b; exact ⟨a, by omega⟩
    have hput : putM [u] d (.mk k n r ks cs) = .mk k (IntKind.wrap .i64 (n - 1)) r (putK [u] d k 0 ks) (putC [u] d cs) := by
     have := hv hkn.1
     have hw : IntKind.wrap .i64 (n - d) = n - d := wrap64 (by omega) (by omega)
     simp only [putM, hw]
     rw [dif_pos ⟨hkn.1, by omega, by simp⟩, dif_neg (by simp; omega)]
     rfl
    refine yR ?_;refine yF ?_;refine yL ?_;refine yI ?_;refine yF ?_;refine yS ?_;refine e_seq ?_
    refine ⟨⟨_, hput⟩, ?_, ?_⟩
    ·exact zW
    ·exact zW
   ·skip
    have hput : putM [u] d (.mk k n r ks cs) = .mk k n r (putK [u] d k 0 ks) (putC [u] d cs) := by
     simp only [putM]
     rw [dif_neg fun hh => by
      obtain ⟨a, b, _⟩ := hh
      have := hv a
      rw [wrap64 (by omega) (by omega)] at b
      subst a
      simp at h1
      rw [wrap64 (by omega) (by omega)] at h1
      omega]
    refine Tri.skip ?_
    refine ⟨⟨_, hput⟩, ?_, ?_⟩
    ·exact zW
    ·exact zW
  ·skip
   obtain ⟨n', hput⟩ := n'
   refine yR ?_;refine yB ?_;refine e_seq ?_;refine tQ ?_;refine Tri.block (Tri.loopW (σ := Nat) (fun i => ⟨[(1, iv .i64 d), (2, iv .i64 0), (4, .ptr 4 [] 32), (7, .ptr 7 [] 32), (8, .ptr 8 [] 32), (9, .ptr 9 [] 32), (10, iv .i64 i)], [(4, .var 32 (.pu (tmc 0 (.mk k n r ks cs)))), (7, .var 32 (.pu (tmc 0 u))), (8, .var 32 (.agg 32 [iv .i64 0, iv .i64 0, .pu (refP Z32), .nilc, .nilc])), (9, .var 32 (.agg 32 [iv .i64 k, iv .i64 n', .pu (refP r), .ow 0 32 (tmsc 0 (out.take i)), .ow 0 106 []]))]⟩) (fun i => ks.length - i) 0 ?_ ?_ (fun i => ?_))
   ·repeat (first | exact .nil | refine .cons rfl (by first | exact .refl | (focus ((repeat constructor); done)) | (exact .var (.agg (.cons .refl (.cons .refl (.cons .refl (.cons .nilcOw (.cons .nilcOw .nil)))))))) ?_)
   ·repeat (first | exact .nil | refine .cons rfl (by first | exact .refl | (focus ((repeat constructor); done)) | (exact .var (.agg (.cons .refl (.cons .refl (.cons .refl (.cons .nilcOw (.cons .nilcOw .nil)))))))) ?_)
   refine yR ?_;refine yM ?_;refine yF ?_;refine yK ?_;refine yC ?_;refine yI ?_;refine e_seq ?_;refine tQ ?_;refine Tri.cond rfl (fun h2 => ?_) (fun h2 => ?_)
   ·skip
    have hi : i < ks.length := by rw [tms_length] at h2; simpa using h2
    have hmo := more_b k i
    have hsz := tsize_mem (List.getElem_mem hi)
    have hgi := hK i ks[i] (List.getElem?_eq_getElem hi)
    rw [Nat.zero_add] at hgi
    have hel : out[i]'(by omega) = putM [u] (d + moreM k i) ks[i] := by
     have := putK_get [u] d k ks 0 i hi
     rw [Nat.zero_add] at this
     rw [← this]; congr 1
    have hts : tmsc 0 (out.take (i + 1)) = tmsc 0 (out.take i) ++ [tmc 0 (putM [u] (d + moreM k i) ks[i])] := by
     rw [tms_eq, tms_eq, List.take_succ_eq_append_getElem (by omega), List.map_append, hel]; rfl
    refine Tri.skip ?_;refine tQ ?_;refine Tri.block ?_;refine yR ?_;refine yF ?_;refine yK ?_;refine yF ?_;refine yK ?_;refine yM ?_;refine s_val (v_index SS (h0 := by omega) (hp := tms_get hi)) ?_;refine yL ?_;refine yM ?_;refine yF ?_;refine yL ?_;refine yM ?_;refine s_val (v_callD (fun _ => rmore_c k i)) ?_;refine yI ?_;refine yM ?_;refine yL ?_;refine s_val (v_callD (fun _ => ih ks[i] (by omega) (by omega) (d + moreM k i) (e + moreM k i) hgi (by omega) (by omega) (by omega))) ?_;refine yZ ?_;refine s_app2 9 [3] ?_ ?_
    ·simp [tms_eq]; omega
    refine yF ?_;refine yW ?_;refine e_draw ?_;refine yR ?_;refine yM ?_;refine yI ?_;refine yA ?_;refine e_seq ?_
    refine ⟨i + 1, by omega, le_of ?_ ?_⟩
    ·repeat (first | exact SubE.nil | refine SubE.cons rfl (by first | rfl | (rw [wrap64 (by omega) (by omega)]; rfl) | (rw [hts]; rfl)) ?_)
    ·repeat (first | exact SubH.nil | refine SubH.cons rfl (by first | rfl | (rw [wrap64 (by omega) (by omega)]; rfl) | (rw [hts]; rfl)) ?_)
   ·skip
    have hi : ks.length ≤ i := by rw [tms_length] at h2; simpa using h2
    rw [List.take_of_length_le (show out.length ≤ i by omega)];refine Tri.exit ?_;refine yR ?_;refine yB ?_;refine e_seq ?_;refine tQ ?_
    refine Tri.block (Tri.loopW (σ := Nat) (fun i => ⟨[(1, iv .i64 d), (2, iv .i64 0), (4, .ptr 4 [] 32), (7, .ptr 7 [] 32), (8, .ptr 8 [] 32), (9, .ptr 9 [] 32), (11, iv .i64 i)], [(4, .var 32 (.pu (tmc 0 (.mk k n r ks cs)))), (7, .var 32 (.pu (tmc 0 u))), (8, .var 32 (.agg 32 [iv .i64 0, iv .i64 0, .pu (refP Z32), .nilc, .nilc])), (9, .var 32 (.agg 32 [iv .i64 k, iv .i64 n', .pu (refP r), .ow 0 32 (tmsc 0 out), .ow 0 106 (cssc 0 ((putC [u] d cs).take i))]))]⟩) (fun i => cs.length - i) 0 ?_ ?_ (fun i => ?_))
    ·exact zW
    ·exact zW
    refine yR ?_;refine yM ?_;refine yF ?_;refine yK ?_;refine yC ?_;refine yI ?_;refine e_seq ?_;refine tQ ?_;refine Tri.cond rfl (fun h3 => ?_) (fun h3 => ?_)
    ·skip
     have hi : i < cs.length := by rw [css_length] at h3; simpa using h3
     have hsz := csize_mem (List.getElem_mem hi)
     have hget := css_get (lo := 0) hi
     have hgi := (hC cs[i] (List.getElem_mem hi)).2
     have hpc := putC_get [u] d cs i hi
     generalize hci : cs[i] = ci at hget hsz hgi hpc
     obtain ⟨q, b⟩ := ci
     simp only [csize] at hsz
     simp only [csP, csT] at hgi
     have hbb := binds_bound q
     have hcs0 : cssc 0 ((putC [u] d cs).take (i + 1)) = cssc 0 ((putC [u] d cs).take i) ++ [csec 0 (.mk q (putM [u] (d + bindsM q) b))] := by
      rw [css_eq, css_eq, List.take_succ_eq_append_getElem (by rw [putC_len]; exact hi), List.map_append, hpc]; rfl
     refine Tri.skip ?_;refine tQ ?_;refine Tri.block ?_;refine yR ?_;refine yF ?_;refine yK ?_;refine yF ?_;refine yK ?_;refine yM ?_;refine s_val (v_index SS (h0 := by omega) (hp := hget)) ?_;refine yF ?_;refine yL ?_;refine s_val (v_callD (fun _ => refOwnPattern_c _ q (Nat.le_refl _) (by omega))) ?_;refine yF ?_;refine yK ?_;refine yM ?_;refine s_val (v_index SS (h0 := by omega) (hp := hget)) ?_;refine yF ?_;refine yL ?_;refine yM ?_;refine yF ?_;refine yK ?_;refine yM ?_;refine s_val (v_index SS (h0 := by omega) (hp := hget)) ?_;refine yF ?_;refine yL ?_
     refine s_val (v_callD (fun _ => rbound_c _ q (Nat.le_refl _) (by omega))) ?_;refine yI ?_;refine yM ?_;refine yL ?_;refine s_val (v_callD (fun _ => ih b (by omega) (by omega) (d + bindsM q) (e + bindsM q) hgi (by omega) (by omega) (by omega))) ?_;refine yP ?_;refine yZ ?_;refine s_app2 9 [4] ?_ ?_
     ·simp [css_eq, putC_len]; omega
     refine yF ?_;refine yW ?_;refine e_draw ?_;refine yR ?_;refine yM ?_;refine yI ?_;refine yA ?_;refine e_seq ?_
     refine ⟨i + 1, by omega, le_of ?_ ?_⟩
     ·repeat (first | exact SubE.nil | refine SubE.cons rfl (by first | rfl | (rw [wrap64 (by omega) (by omega)]; rfl) | (rw [hcs0]; rfl)) ?_)
     ·repeat (first | exact SubH.nil | refine SubH.cons rfl (by first | rfl | (rw [wrap64 (by omega) (by omega)]; rfl) | (rw [hcs0]; rfl)) ?_)
    ·skip
     have hi : cs.length ≤ i := by rw [css_length] at h3; simpa using h3
     rw [List.take_of_length_le (by rw [putC_len]; exact hi)];refine Tri.exit ?_;refine yR ?_;refine yL ?_;refine yS ?_;refine e_seq ?_;refine tQ ?_;exact Tri.ret ⟨.inr rfl, ret1 rfl resV_cell ((by rw [hput, ← hout]; exact ToPu.imp (by repeat constructor)))⟩
theorem rinto_c (u t : Tm) (hu : gdT 0 u) (hus : tsize u < 2^30) (e : Int) (hg : gdT e t) (ht : tsize t < 2^30) (he : e ≤ 2^40) : FCall Tryz.prog G 181 [.pu (tmc 0 t), iv .i64 0, .pu (tmc 0 u)] (.pu (tmc 0 (putM [u] 0 t))) := by
 refine FCall.of_tri tbl 11 Tryz.func181 rfl rfl rfl fun w0 M ρ0 D0 => ?_
 refine yR ?_;refine s_box SS 3 ?_;refine s_box SS 5 ?_;refine s_alloc SS 6 ?_;refine e_seqN [3, 5, 6] ?_;refine yR ?_;refine yL ?_;refine yM ?_;refine yL ?_;refine s_val (v_callD (fun _ => rput_c u hu hus _ t (Nat.le_refl _) ht 0 e hg (by omega) (by omega) (by omega))) ?_;refine yS ?_;refine e_seq ?_;refine tQ ?_;exact Tri.ret ⟨.inr rfl, ret1 rfl resV_cell (ToPu.imp (by repeat constructor))⟩
end Go.Proofs.YtkcgkignhpepkaaGreatDoor

/- The reference: a part of a term, set. -/
namespace Go.Proofs.YtkcgkignhpepkaaGreatDoor
open Go Hs
variable {G : List (Nat × TypeId × Pu)}
def setM : Tm → List Nat → Tm → Tm
 | _, [], u => u
 | t, j :: q, u => match t.kids[j]? with
  | some x => setKid t j (setM x q u)
  | none => t
theorem rset_c (u : Tm) : ∀ (p : List Nat) (t : Tm), okP t p → tsize t < 2^30 → p.length < 2^30 →
  FCall Tryz.prog G 183 [.pu (tmc 0 t), .pu (.sl 0 3 (pathL p)), .pu (tmc 0 u)] (.pu (tmc 0 (setM t p u))) := by
 intro p
 induction p with
 | nil =>
  intro t _ hN _
  refine FCall.of_tri tbl 69 Tryz.func183 rfl rfl rfl fun w0 M ρ0 D0 => ?_
  refine yR ?_;refine s_box SS 3 ?_;refine s_box SS 5 ?_;refine s_alloc SS 6 ?_;refine e_seqN [3, 5, 6] ?_;refine yR ?_;refine yM ?_;refine yC ?_;refine yI ?_;refine e_seq ?_;refine tQ ?_;refine Tri.cond rfl (fun h0 => ?_) (fun h0 => ?_)
  ·skip
   refine yR ?_;refine yL ?_;refine yS ?_;refine e_seq ?_;refine tQ ?_;exact Tri.ret ⟨.inr rfl, ret1 rfl resV_cell (ToPu.imp (by repeat constructor))⟩
  ·exfalso; simp [pathL] at h0
 | cons j q ih =>
  intro t hok hN hl
  obtain ⟨x, hx, hokq⟩ := hok
  obtain ⟨k, n, r, ks, cs⟩ := t
  simp only [kids_mk] at hx
  have hj : j < ks.length := (List.getElem?_eq_some_iff.1 hx).1
  have hlen := length_tsizeL ks
  have hN' := hN
  simp only [tsize] at hN'
  have hxs := tsize_mem (List.mem_of_getElem? hx)
  have hxg : (tmsc 0 ks)[j]? = some (tmc 0 x) := by simp [tms_eq, hx]
  simp only [List.length_cons] at hl
  have hkt : j < (tmsc 0 ks).length := by rw [tms_length]; exact hj
  have hp0 : (pathL (j :: q))[0]? = some (.leaf (.int .i64 (j : Nat))) := by simp [pathL]
  have hne : tmsc 0 ks ≠ [] := fun e => by
   have := congrArg List.length e
   rw [tms_length] at this
   simp at this
   simp [this] at hj
  refine FCall.of_tri tbl 69 Tryz.func183 rfl rfl rfl fun w0 M ρ0 D0 => ?_
  refine yR ?_;refine s_box SS 3 ?_;refine s_box SS 5 ?_;refine s_alloc SS 6 ?_;refine e_seqN [3, 5, 6] ?_;refine yR ?_;refine yM ?_;refine yC ?_;refine yI ?_;refine e_seq ?_;refine tQ ?_;refine Tri.cond rfl (fun h0 => ?_) (fun h0 => ?_)
  ·exfalso; simp [pathL] at h0; omega
  ·skip
   refine Tri.skip ?_;refine yR ?_;refine yL ?_;refine s_alloc SS 7 ?_;refine yS ?_;refine e_seqN [7] ?_;refine yR ?_;refine yM ?_;refine s_val (v_index SS (h0 := by omega) (hp := hp0)) ?_;refine yL ?_;refine yA ?_;refine e_seq ?_;refine yR ?_;refine yM ?_;refine yF ?_;refine yK ?_;refine yC ?_;refine yI ?_;refine e_seq ?_;refine tQ ?_;refine Tri.cond rfl (fun h1 => ?_) (fun h1 => ?_)
   ·skip
    refine yR ?_;refine yZ ?_;refine yF ?_;refine yK ?_;refine s_appRow SS 70 hne (by rw [tms_length]; omega) ?_;refine yF ?_;refine yW ?_;refine e_seqN [70] ?_;refine yR ?_;refine yF ?_;refine yK ?_;refine yM ?_;refine yF ?_;refine yK ?_;refine yM ?_;refine s_val (v_index SS (h0 := by omega) (hp := hxg)) ?_;refine yL ?_;refine yM ?_;refine s_val (v_sliceFrom SS (ps := pathL (j :: q)) (l := 1) (by simp [pathL])) ?_;refine yL ?_;refine s_val (v_callD (fun _ => ih x hokq (by omega) (by omega))) ?_;refine s_val (v_ixa SS) ?_
    refine s_storeR SS (i := j) (vs := (tmsc 0 ks).map .pu) (u0 := .pu (tmc 0 x)) (by simp [tms_eq, hx]) ?_;refine e_draw ?_;rw [tms_set]
    refine Tri.freeze (lo := 0) (l := 70) (E := 32) (ps := tmsc 0 (ks.set j (setM x q u))) (env' := [(6, .ptr 6 [] 32), (7, .ptr 7 [] 32)]) (heap' := [(6, .var 32 (.agg 32 [iv .i64 0, iv .i64 0, .pu (refP Z32), .nilc, .nilc])), (7, .var 32 (.agg 32 [.pu (.leaf (.int .i64 k)), .pu (.leaf (.int .i64 n)), .pu (refP r), .pu (.sl 0 32 (tmsc 0 (ks.set j (setM x q u)))), .pu (.sl 0 106 (cssc 0 cs))]))]) rfl (.inl rfl) ?_ (h2 := .cons rfl rfl rfl (.cons rfl rfl (by simp [frzOb, frzV, frzL, tms_length, tms_setl]) .nil))
    have hset : setM (.mk k n r ks cs) (j :: q) u = .mk k n r (ks.set j (setM x q u)) cs := by simp only [setM, kids_mk, hx, setKid]
    rw [hset];refine yR ?_;refine yL ?_;refine yS ?_;refine e_seq ?_;refine tQ ?_;exact Tri.ret ⟨.inr rfl, ret1 rfl resV_cell (ToPu.imp (by repeat constructor))⟩
   ·exfalso; rw [tms_length] at h1; simp at h1; omega
end Go.Proofs.YtkcgkignhpepkaaGreatDoor

/- Values put at once, and one after the other; a part set, and the way filled. -/
namespace Go.Proofs.YtkcgkignhpepkaaGreatDoor
open Go Hs
mutual
theorem put_closed (vs : List Tm) : ∀ (t : Tm) (d e : Int), gdT d t → d ≤ e → 0 ≤ d → e + 2 * tsize t ≤ 2^42 → putM vs e t = t
 | .mk k n r ks cs, d, e, h, hd, h0, he => by
  simp only [tsize] at he
  have hk := putK_closed vs ks d e k 0 h.2.2.2.2.1 hd h0 (by omega)
  have hc := putC_closed vs cs d e h.2.2.2.2.2 hd h0 (by omega)
  simp only [putM]
  rw [dif_neg fun hh => by
   have := h.2.2.2.1 hh.1
   have h2 := hh.2.1
   rw [wrap64 (by omega) (by omega)] at h2
   omega, hk, hc]
theorem putK_closed (vs : List Tm) : ∀ (ks : List Tm) (d e k : Int) (i : Nat), gdK d k i ks → d ≤ e → 0 ≤ d → e + 2 + 2 * tsizeL ks ≤ 2^42 → putK vs e k i ks = ks
 | [], _, _, _, _, _, _, _, _ => rfl
 | t :: ts, d, e, k, i, h, hd, h0, he => by
  simp only [tsizeL] at he
  have hm := more_b k i
  have hp := tsize_pos t
  simp only [putK]
  rw [put_closed vs t (d + moreM k i) (e + moreM k i) h.1 (by omega) (by omega) (by omega), putK_closed vs ts d e k (i + 1) h.2 hd h0 (by omega)]
theorem putC_closed (vs : List Tm) : ∀ (cs : List Cs) (d e : Int), gdC d cs → d ≤ e → 0 ≤ d → e + 2 * csizeL cs ≤ 2^42 → putC vs e cs = cs
 | [], _, _, _, _, _, _ => rfl
 | .mk q t :: cs, d, e, h, hd, h0, he => by
  simp only [csizeL, csize] at he
  have hb := binds_bound q
  simp only [putC, putS]
  rw [put_closed vs t (d + bindsM q) (e + bindsM q) h.1.2 (by omega) (by omega) (by omega), putC_closed vs cs d e h.2 hd h0 (by omega)]
end
mutual
theorem put_one (v : Tm) (vs : List Tm) (hl : vs.length < 2^40) (hvs : ∀ x ∈ vs, gdT 0 x ∧ tsize x < 2^40) : ∀ (t : Tm) (d e : Int), gdT e t → 0 ≤ d → d + 2 * tsize t ≤ 2^41 → e + 2 * tsize t ≤ 2^42 →
  putM (v :: vs) d t = putM [v] d (putM vs d t)
 | .mk k n r ks cs, d, e, h, h0, hd, he => by
  simp only [tsize] at hd he
  have hk := putK_one v vs hl hvs ks d e k 0 h.2.2.2.2.1 h0 (by omega) (by omega)
  have hc := putC_one v vs hl hvs cs d e h.2.2.2.2.2 h0 (by omega) (by omega)
  have hv := h.2.2.2.1
  by_cases h1 : k = 1 ∧ d ≤ n
  ·obtain ⟨hk1, hdn⟩ := h1
   have hn := hv hk1
   have hw : IntKind.wrap .i64 (n - d) = n - d := wrap64 (by omega) (by omega)
   by_cases h2 : n - d < vs.length
   ·-- a value of vs
    have hpos : 0 < vs.length := by omega
    have e1 : putM vs d (.mk k n r ks cs) = vs[vs.length - 1 - (n - d).toNat]'(by omega) := by
     simp only [putM, hw]
     rw [dif_pos ⟨hk1, by omega, hpos⟩, dif_pos h2]
    have hm := hvs _ (List.getElem_mem (show vs.length - 1 - (n - d).toNat < vs.length by omega))
    rw [e1, put_closed [v] _ 0 d hm.1 (by omega) (by omega) (by omega)]
    simp only [putM, hw]
    rw [dif_pos ⟨hk1, by omega, by simp⟩, dif_pos (by simp; omega)]
    simp only [List.length_cons]
    have : vs.length + 1 - 1 - (n - d).toNat = (vs.length - 1 - (n - d).toNat) + 1 := by omega
    simp only [this, List.getElem_cons_succ]
   ·have e1 : putM vs d (.mk k n r ks cs) = .mk k (n - vs.length) r (putK vs d k 0 ks) (putC vs d cs) := by
     by_cases hpos : 0 < vs.length
     ·simp only [putM, hw]
      rw [dif_pos ⟨hk1, by omega, hpos⟩, dif_neg h2, wrap64 (by omega) (by omega)]
     ·simp only [putM, hw]
      rw [dif_neg fun hh => hpos hh.2.2]
      have : vs.length = 0 := by omega
      simp [this]
    rw [e1]
    have hw2 : IntKind.wrap .i64 (n - vs.length - d) = n - vs.length - d := wrap64 (by omega) (by omega)
    by_cases h3 : n - d = vs.length
    ·simp only [putM, hw, hw2]
     rw [dif_pos ⟨hk1, by omega, by simp⟩, dif_pos (by simp; omega), dif_pos ⟨hk1, by omega, by simp⟩, dif_pos (by simp; omega)]
     have e3 : (v :: vs).length - 1 - (n - d).toNat = 0 := by simp; omega
     have e4 : ([v] : List Tm).length - 1 - (n - vs.length - d).toNat = 0 := by simp
     simp only [e3, e4, List.getElem_cons_zero]
    ·simp only [putM, hw, hw2]
     rw [dif_pos ⟨hk1, by omega, by simp⟩, dif_neg (by simp; omega), dif_pos ⟨hk1, by omega, by simp⟩, dif_neg (by simp; omega), hk, hc]
     simp only [List.length_cons, List.length_nil]
     congr 1
     rw [wrap64 (by omega) (by omega), wrap64 (by omega) (by omega)]
     omega
  ·have e1 : ∀ ws : List Tm, putM ws d (.mk k n r ks cs) = .mk k n r (putK ws d k 0 ks) (putC ws d cs) := fun ws => by
    simp only [putM]
    rw [dif_neg fun hh => by
     have := hv hh.1
     have h2 := hh.2.1
     rw [wrap64 (by omega) (by omega)] at h2
     exact h1 ⟨hh.1, by omega⟩]
   have e2 : putM [v] d (.mk k n r (putK vs d k 0 ks) (putC vs d cs)) = .mk k n r (putK [v] d k 0 (putK vs d k 0 ks)) (putC [v] d (putC vs d cs)) := by
    simp only [putM]
    rw [dif_neg fun hh => by
     have := hv hh.1
     have h2 := hh.2.1
     rw [wrap64 (by omega) (by omega)] at h2
     exact h1 ⟨hh.1, by omega⟩]
   rw [e1 (v :: vs), e1 vs, e2, hk, hc]
theorem putK_one (v : Tm) (vs : List Tm) (hl : vs.length < 2^40) (hvs : ∀ x ∈ vs, gdT 0 x ∧ tsize x < 2^40) : ∀ (ks : List Tm) (d e k : Int) (i : Nat), gdK e k i ks → 0 ≤ d → d + 2 + 2 * tsizeL ks ≤ 2^41 → e + 2 + 2 * tsizeL ks ≤ 2^42 →
  putK (v :: vs) d k i ks = putK [v] d k i (putK vs d k i ks)
 | [], _, _, _, _, _, _, _, _ => rfl
 | t :: ts, d, e, k, i, h, h0, hd, he => by
  simp only [tsizeL] at hd he
  have hm := more_b k i
  have hp := tsize_pos t
  simp only [putK]
  rw [put_one v vs hl hvs t (d + moreM k i) (e + moreM k i) h.1 (by omega) (by omega) (by omega), putK_one v vs hl hvs ts d e k (i + 1) h.2 h0 (by omega) (by omega)]
theorem putC_one (v : Tm) (vs : List Tm) (hl : vs.length < 2^40) (hvs : ∀ x ∈ vs, gdT 0 x ∧ tsize x < 2^40) : ∀ (cs : List Cs) (d e : Int), gdC e cs → 0 ≤ d → d + 2 * csizeL cs ≤ 2^41 → e + 2 * csizeL cs ≤ 2^42 →
  putC (v :: vs) d cs = putC [v] d (putC vs d cs)
 | [], _, _, _, _, _, _ => rfl
 | .mk q t :: cs, d, e, h, h0, hd, he => by
  simp only [csizeL, csize] at hd he
  have hb := binds_bound q
  simp only [putC, putS]
  rw [put_one v vs hl hvs t (d + bindsM q) (e + bindsM q) h.1.2 (by omega) (by omega) (by omega), putC_one v vs hl hvs cs d e h.2 h0 (by omega) (by omega)]
end
end Go.Proofs.YtkcgkignhpepkaaGreatDoor

/- The way filled is a part set. -/
namespace Go.Proofs.YtkcgkignhpepkaaGreatDoor
open Go Hs
theorem fill_cons (t : Tm) (j : Nat) (way : List Tm) (q : List Nat) : ∀ (m : Nat) (y : Tm), m ≤ way.length → m ≤ q.length → fillM (t :: way) (j :: q) 0 (m + 1) y = setKid t j (fillM way q 0 m y)
 | 0, y, _, _ => by simp [fillM]
 | m + 1, y, h1, h2 => by
  have e1 : fillM (t :: way) (j :: q) 0 (m + 1 + 1) y = fillM (t :: way) (j :: q) 0 (m + 1) (setKid way[m] q[m] y) := by
   rw [fillM]
   simp [List.getElem?_eq_getElem (show m < way.length by omega), List.getElem?_eq_getElem (show m < q.length by omega)]
  have e2 : fillM way q 0 (m + 1) y = fillM way q 0 m (setKid way[m] q[m] y) := by
   rw [fillM]
   simp [List.getElem?_eq_getElem (show m < way.length by omega), List.getElem?_eq_getElem (show m < q.length by omega)]
  rw [e1, e2, fill_cons t j way q m _ (by omega) (by omega)]
theorem fill_set : ∀ {p : List Nat} {t : Tm} (n : Nat) (y : Tm), okP t p → n ≤ p.length → fillM (wayM t p) p 0 n y = setM t (p.take n) y
 | [], t, n, y, _, h => by
  have : n = 0 := by simpa using h
  subst this
  simp [fillM, setM]
 | j :: q, t, 0, y, _, _ => by simp [fillM, setM]
 | j :: q, t, n + 1, y, ⟨x, hx, hok⟩, h => by
  simp only [List.length_cons] at h
  have hw : wayM t (j :: q) = t :: wayM x q := by simp [wayM, hx]
  rw [hw, fill_cons t j _ q n y (by rw [way_len hok]; omega) (by omega), fill_set n y hok (by omega)]
  simp [setM, hx]
theorem fill_drop (way : List Tm) (path : List Nat) (lo : Nat) : ∀ (m : Nat) (y : Tm), lo + m ≤ way.length → lo + m ≤ path.length → fillM way path lo (lo + m) y = fillM (way.drop lo) (path.drop lo) 0 m y
 | 0, y, _, _ => by
  cases lo with
  | zero => rfl
  | succ l => simp [fillM]
 | m + 1, y, h1, h2 => by
  have e1 : fillM way path lo (lo + (m + 1)) y = fillM way path lo (lo + m) (setKid way[lo + m] path[lo + m] y) := by
   rw [show lo + (m + 1) = (lo + m) + 1 by omega, fillM, if_neg (by omega)]
   simp [List.getElem?_eq_getElem (show lo + m < way.length by omega), List.getElem?_eq_getElem (show lo + m < path.length by omega)]
  have e2 : fillM (way.drop lo) (path.drop lo) 0 (m + 1) y = fillM (way.drop lo) (path.drop lo) 0 m (setKid way[lo + m] path[lo + m] y) := by
   rw [fillM]
   simp [List.getElem?_drop, List.getElem?_eq_getElem (show lo + m < way.length by omega), List.getElem?_eq_getElem (show lo + m < path.length by omega)]
  rw [e1, e2, fill_drop way path lo m _ (by omega) (by omega)]
theorem way_drop : ∀ {p : List Nat} {t : Tm} (n : Nat), okP t p → n ≤ p.length → (wayM t p).drop n = wayM (walkM t (p.take n)) (p.drop n) ∧ okP (walkM t (p.take n)) (p.drop n)
 | p, t, 0, h, _ => by simp only [List.drop_zero, List.take_zero, walkM]; exact ⟨trivial, h⟩
 | [], t, n + 1, _, h => by simp at h
 | j :: q, t, n + 1, ⟨x, hx, hok⟩, h => by
  simp only [List.length_cons] at h
  obtain ⟨h1, h2⟩ := way_drop n hok (by omega)
  simp only [wayM, hx, List.drop_succ_cons, List.take_succ_cons, walkM]
  exact ⟨h1, h2⟩
theorem fill_from {p : List Nat} {t : Tm} {n : Nat} (y : Tm) (hok : okP t p) (hn : n ≤ p.length) : fillM (wayM t p) p n p.length y = setM (walkM t (p.take n)) (p.drop n) y := by
 obtain ⟨h1, h2⟩ := way_drop n hok hn
 have := fill_drop (wayM t p) p n (p.length - n) y (by rw [way_len hok]; omega) (by omega)
 rw [show n + (p.length - n) = p.length by omega] at this
 rw [this, h1, fill_set _ y h2 (by simp)]
 congr 1
 rw [← List.length_drop, List.take_length]
theorem here_set {p : List Nat} {t : Tm} (y : Tm) (hok : okP t p) : hereM t p y = setM t p y := by
 unfold hereM
 rw [fill_set p.length y hok (Nat.le_refl _), List.take_length]
end Go.Proofs.YtkcgkignhpepkaaGreatDoor

/- A step makes right terms of right terms. -/
namespace Go.Proofs.YtkcgkignhpepkaaGreatDoor
open Go Hs
theorem gdK_set : ∀ {ks : List Tm} {d k : Int} {i j : Nat} {x : Tm}, gdK d k i ks → gdT (d + moreM k ((i + j : Nat) : Int)) x → gdK d k i (ks.set j x)
 | [], _, _, _, _, _, _, _ => trivial
 | t :: ts, d, k, i, 0, x, h, hx => ⟨hx, h.2⟩
 | t :: ts, d, k, i, j + 1, x, h, hx => ⟨h.1, gdK_set (i := i + 1) (j := j) h.2 (by rwa [show i + 1 + j = i + (j + 1) by omega])⟩
def freeP (t : Tm) (p : List Nat) : Prop := ∀ i (_ : i < p.length), moreM (walkM t (p.take i)).kind ((p[i]'(by assumption) : Nat) : Int) = 0
theorem freeP_cons {t x : Tm} {j : Nat} {q : List Nat} (h : freeP t (j :: q)) (hx : t.kids[j]? = some x) : moreM t.kind (j : Nat) = 0 ∧ freeP x q := by
 refine ⟨h 0 (by simp), fun i hi => ?_⟩
 have := h (i + 1) (by simpa using hi)
 simpa only [List.take_succ_cons, walkM, hx, List.getElem_cons_succ] using this
theorem freeP_place (t : Tm) : freeP t (placeM t) := fun i hi => place_more _ t (Nat.le_refl _) i hi
theorem freeP_take {t : Tm} {p : List Nat} (h : freeP t p) (n : Nat) : freeP t (p.take n) := fun i hi => by
 have hl : i < p.length := by simp at hi; omega
 have hn : i < n := by simp at hi; omega
 have := h i hl
 rw [List.take_take, Nat.min_eq_left (by omega), List.getElem_take];exact this
theorem walk_take : ∀ {p : List Nat} {t : Tm} (n i : Nat), okP t p → n + i ≤ p.length → walkM (walkM t (p.take n)) ((p.drop n).take i) = walkM t (p.take (n + i))
 | p, t, 0, i, _, _ => by simp [walkM]
 | [], t, n + 1, i, _, h => by simp at h
 | j :: q, t, n + 1, i, ⟨x, hx, hok⟩, h => by
  simp only [List.length_cons] at h
  rw [show n + 1 + i = (n + i) + 1 by omega]
  simp only [List.take_succ_cons, List.drop_succ_cons, walkM, hx]
  exact walk_take n i hok (by omega)
theorem freeP_drop {t : Tm} {p : List Nat} (h : freeP t p) (hok : okP t p) (n : Nat) (hn : n ≤ p.length) : freeP (walkM t (p.take n)) (p.drop n) := fun i hi => by
 have hl : n + i < p.length := by simp at hi; omega
 rw [walk_take n i hok (by omega), List.getElem_drop];exact h (n + i) hl
theorem set_gd {y : Tm} : ∀ {p : List Nat} {t : Tm} {d : Int}, freeP t p → gdT d t → gdT d y → gdT d (setM t p y)
 | [], _, _, _, _, hy => hy
 | j :: q, .mk k n r ks cs, d, hf, h, hy => by
  simp only [setM]
  split
  ·rename_i x hx
   obtain ⟨h0, hq⟩ := freeP_cons hf hx
   simp only [kind_mk] at h0
   simp only [kids_mk] at hx
   have hg := gdK_mem h.2.2.2.2.1 hx
   rw [Nat.zero_add, h0, Int.add_zero] at hg
   refine ⟨h.1, by rw [List.length_set]; exact h.2.1, h.2.2.1, h.2.2.2.1, gdK_set h.2.2.2.2.1 ?_, h.2.2.2.2.2⟩
   rw [Nat.zero_add, h0, Int.add_zero];exact set_gd hq hg hy
  ·exact h
theorem gd_nat (n d : Int) : gdT d (natM n) := ⟨⟨by omega, by omega, by omega⟩, by simp [kidsM], fun h => by omega, fun h => by omega, trivial, trivial⟩
theorem gd_var : gdT 1 varM := ⟨⟨by omega, by omega, by omega⟩, by simp [kidsM], fun h => by omega, fun _ => by omega, trivial, trivial⟩
theorem more_app (i : Nat) : moreM 4 (i : Int) = 0 := by unfold moreM; rw [if_neg (by omega), if_neg (by omega)]
theorem more_let0 {k : Int} (h : k = 5 ∨ k = 12 ∨ k = 9 ∨ k = 11) : moreM k ((0 : Nat) : Int) = 0 := by unfold moreM; rw [if_neg (by omega), if_neg (by omega)]
theorem more_let1 {k : Int} (h : k = 5 ∨ k = 12) : moreM k ((1 : Nat) : Int) = 1 := by unfold moreM; rw [if_pos (by omega)]
theorem more_han {i : Nat} (h : 2 ≤ i) : moreM 12 (i : Int) = 2 := by unfold moreM; rw [if_neg (by omega), if_pos (by omega)]
theorem put1_gd {x b : Tm} (hx : gdT 0 x) (hb : gdT 1 b) (hz : tsize b < 2^40) : gdT 0 (putM [x] 0 b) :=
 put_gd [x] (fun v hv => by simp at hv; subst hv; exact hx) b 0 (by omega) (by simp; omega) (by simpa using hb)
theorem app_gd {w f x b : Tm} (hw : gdT 0 w) (hk : w.kind = 4) (h0 : w.kids[0]? = some f) (hf : f.kind = 3) (h1 : w.kids[1]? = some x) (hb : f.kids[0]? = some b) : gdT 0 x ∧ gdT 1 b := by
 have e0 := gd_kid hw h0
 have e1 := gd_kid hw h1
 rw [hk, more_app, Int.add_zero] at e0 e1
 have e2 := gd_kid e0 hb
 rw [hf] at e2
 exact ⟨e1, by simpa [moreM] using e2⟩
theorem let_gd {w x b : Tm} (hw : gdT 0 w) (hk : w.kind = 5 ∨ w.kind = 12) (h0 : w.kids[0]? = some x) (h1 : w.kids[1]? = some b) : gdT 0 x ∧ gdT 1 b := by
 have e0 := gd_kid hw h0
 have e1 := gd_kid hw h1
 rw [more_let0 (by omega), Int.add_zero] at e0
 rw [more_let1 hk] at e1
 exact ⟨e0, by simpa using e1⟩
end Go.Proofs.YtkcgkignhpepkaaGreatDoor

/- The reference: numbers, and what is right. -/
namespace Go.Proofs.YtkcgkignhpepkaaGreatDoor
open Go Hs
variable {G : List (Nat × TypeId × Pu)}
theorem prim_zero {op a b : Int} (h0 : ¬ op = 1) (h1 : ¬ op = 2) (h2 : ¬ op = 3) (h3 : op = 4 → ¬ a = b) (h4 : op = 5 → b ≤ a) : capM (primV op a b) = 0 := by
 have e : primV op a b = 0 := by
  unfold primV
  rw [if_neg h0, if_neg h1, if_neg h2]
  by_cases h : op = 4
  ·rw [if_pos h, if_neg (h3 h)]
  ·rw [if_neg h]
   by_cases h' : op = 5
   ·rw [if_pos h', if_neg (by have := h4 h'; omega)]
   ·rw [if_neg h']
 rw [e]; rfl
theorem rnumber_c (op a b : Int) : FCall Tryz.prog G 182 [iv .i64 op, iv .i64 a, iv .i64 b] (iv .i64 (capM (primV op a b))) := by
 refine FCall.of_tri tbl 44 Tryz.func182 rfl rfl rfl fun w0 M ρ0 D0 => ?_
 refine yR ?_;refine yB ?_;refine e_seq ?_;refine yR ?_;refine yB ?_;refine e_seq ?_;refine tQ ?_;refine Tri.block ?_;refine yR ?_;refine yM ?_;refine yI ?_;refine yA ?_;refine e_seq ?_;refine tQ ?_;refine Tri.cond rfl (fun h0 => ?_) (fun h0 => ?_)
 ·skip
  refine yR ?_;refine yM ?_;refine yM ?_;refine yI ?_;refine yA ?_;refine e_seq ?_;refine yR ?_;refine yM ?_;refine s_val (v_maxD) ?_;refine s_val (v_minD) ?_;refine yA ?_;refine e_seq ?_;refine tQ ?_;exact Tri.ret ⟨.inr rfl, ret1 rfl resV_tmp (iv_imp (by first | (simp_all [primV, capM]; done) | (rw [prim_zero (by simp_all) (by simp_all) (by simp_all) (by simp_all) (by simp_all)]; rfl)))⟩
 ·skip
  refine yR ?_;refine yM ?_;refine yI ?_;refine yA ?_;refine e_seq ?_;refine tQ ?_;refine Tri.cond rfl (fun h1 => ?_) (fun h1 => ?_)
  ·skip
   refine yR ?_;refine yM ?_;refine yM ?_;refine yI ?_;refine yA ?_;refine e_seq ?_;refine yR ?_;refine yM ?_;refine s_val (v_maxD) ?_;refine s_val (v_minD) ?_;refine yA ?_;refine e_seq ?_;refine tQ ?_;exact Tri.ret ⟨.inr rfl, ret1 rfl resV_tmp (iv_imp (by first | (simp_all [primV, capM]; done) | (rw [prim_zero (by simp_all) (by simp_all) (by simp_all) (by simp_all) (by simp_all)]; rfl)))⟩
  ·skip
   refine yR ?_;refine yM ?_;refine yI ?_;refine yA ?_;refine e_seq ?_;refine tQ ?_;refine Tri.cond rfl (fun h2 => ?_) (fun h2 => ?_)
   ·skip
    refine yR ?_;refine yM ?_;refine yM ?_;refine yI ?_;refine yA ?_;refine e_seq ?_;refine yR ?_;refine yM ?_;refine s_val (v_maxD) ?_;refine s_val (v_minD) ?_;refine yA ?_;refine e_seq ?_;refine tQ ?_;exact Tri.ret ⟨.inr rfl, ret1 rfl resV_tmp (iv_imp (by first | (simp_all [primV, capM]; done) | (rw [prim_zero (by simp_all) (by simp_all) (by simp_all) (by simp_all) (by simp_all)]; rfl)))⟩
   ·skip
    refine yR ?_;refine yM ?_;refine yI ?_;refine yM ?_;refine xM ?_;refine xM ?_;refine xI ?_;refine yN ?_;refine yA ?_;refine e_seq ?_;refine tQ ?_;refine Tri.cond rfl (fun h3 => ?_) (fun h3 => ?_)
    ·skip
     refine Tri.skip ?_;refine tQ ?_;refine Tri.cond rfl (fun h4 => ?_) (fun h4 => ?_)
     ·skip
      refine yR ?_;refine yB ?_;refine e_seq ?_;refine yR ?_;refine yM ?_;refine s_val (v_maxD) ?_;refine s_val (v_minD) ?_;refine yA ?_;refine e_seq ?_;refine tQ ?_;exact Tri.ret ⟨.inr rfl, ret1 rfl resV_tmp (iv_imp (by first | (simp_all [primV, capM]; done) | (rw [prim_zero (by simp_all) (by simp_all) (by simp_all) (by simp_all) (by simp_all)]; rfl)))⟩
     ·skip
      refine Tri.skip ?_;refine yR ?_;refine yM ?_;refine s_val (v_maxD) ?_;refine s_val (v_minD) ?_;refine yA ?_;refine e_seq ?_;refine tQ ?_;exact Tri.ret ⟨.inr rfl, ret1 rfl resV_tmp (iv_imp (by first | (simp_all [primV, capM]; done) | (rw [prim_zero (by simp_all) (by simp_all) (by simp_all) (by simp_all) (by simp_all)]; rfl)))⟩
    ·skip
     refine yR ?_;refine yM ?_;refine yI ?_;refine yM ?_;refine xM ?_;refine xM ?_;refine xI ?_;refine yN ?_;refine yA ?_;refine e_seq ?_;refine tQ ?_;refine Tri.cond rfl (fun h4 => ?_) (fun h4 => ?_)
     ·skip
      refine yR ?_;refine yB ?_;refine e_seq ?_;refine yR ?_;refine yM ?_;refine s_val (v_maxD) ?_;refine s_val (v_minD) ?_;refine yA ?_;refine e_seq ?_;refine tQ ?_;exact Tri.ret ⟨.inr rfl, ret1 rfl resV_tmp (iv_imp (by first | (simp_all [primV, capM]; done) | (rw [prim_zero (by simp_all) (by simp_all) (by simp_all) (by simp_all) (by simp_all)]; rfl)))⟩
     ·skip
      refine Tri.skip ?_;refine yR ?_;refine yM ?_;refine s_val (v_maxD) ?_;refine s_val (v_minD) ?_;refine yA ?_;refine e_seq ?_;refine tQ ?_;exact Tri.ret ⟨.inr rfl, ret1 rfl resV_tmp (iv_imp (by first | (simp_all [primV, capM]; done) | (rw [prim_zero (by simp_all) (by simp_all) (by simp_all) (by simp_all) (by simp_all)]; rfl)))⟩
theorem rright_c (t : Tm) (hN : tsize t < 2^40) : FCall Tryz.prog G 117 [.pu (tmc 0 t)] (iv .i64 (if (longT 300 60 1 0 t).1 then 11 else 0)) := by
 have he := ext_long (mn := 300) (md := 60) (most := 400) t (by omega)
 refine FCall.of_tri tbl 16 Tryz.func117 rfl rfl rfl fun w0 M ρ0 D0 => ?_
 refine yR ?_;refine s_box SS 1 ?_;refine yB ?_;refine e_seqN [1] ?_;refine yR ?_;refine yL ?_;refine s_val (v_callD (fun _ => rextent_c _ t (Nat.le_refl _) hN 400 (by omega))) ?_;refine yM ?_;refine yX ?_;refine yX ?_;refine yA ?_;refine yA ?_;refine e_seq ?_;refine yR ?_;refine yM ?_;refine yI ?_;refine yM ?_;refine xM ?_;refine xI ?_;refine yO ?_;refine e_seq ?_;refine tQ ?_;refine Tri.cond rfl (fun h0 => ?_) (fun h0 => ?_)
 ·skip
  refine yR ?_;refine yB ?_;refine e_seq ?_;refine tQ ?_;exact Tri.ret ⟨.inr rfl, ret1 rfl resV_tmp (iv_imp (by rw [← he, h0]; rfl))⟩
 ·skip
  refine Tri.skip ?_;refine yR ?_;refine yB ?_;refine e_seq ?_;refine tQ ?_;exact Tri.ret ⟨.inr rfl, ret1 rfl resV_tmp (iv_imp (by rw [← he, h0]; rfl))⟩
end Go.Proofs.YtkcgkignhpepkaaGreatDoor

/- A step makes a right term of a right one. -/
namespace Go.Proofs.YtkcgkignhpepkaaGreatDoor
open Go Hs
theorem way_at {t : Tm} {p : List Nat} (hok : okP t p) {n : Nat} (hn : n ≤ p.length) {x : Tm} (h : (wayM t p)[n]? = some x) : x = walkM t (p.take n) := by
 rw [way_get hok hn] at h
 exact (Option.some.inj h).symm
theorem hand_at : ∀ (way : List Tm) (r : List Int) (n : Nat), 0 ≤ handM way r n → ∃ x, way[(handM way r n).toNat]? = some x ∧ x.kind = 12 ∧ x.ref = r ∧ (handM way r n).toNat < n
 | way, r, 0, h => by simp [handM] at h
 | way, r, n + 1, h => by
  cases hx : way[n]? with
  | none =>
   have e : handM way r (n + 1) = handM way r n := by simp only [handM, hx]
   rw [e] at h ⊢
   obtain ⟨y, h1, h2, h3, h4⟩ := hand_at way r n h
   exact ⟨y, h1, h2, h3, by omega⟩
  | some x =>
   by_cases hc : (x.kind == 12 && x.ref == r) = true
   ·have e : handM way r (n + 1) = n := by simp only [handM, hx, if_pos hc]
    rw [e, Int.toNat_natCast]
    simp at hc
    exact ⟨x, hx, hc.1, hc.2, by omega⟩
   ·have e : handM way r (n + 1) = handM way r n := by simp only [handM, hx, if_neg hc]
    rw [e] at h ⊢
    obtain ⟨y, h1, h2, h3, h4⟩ := hand_at way r n h
    exact ⟨y, h1, h2, h3, by omega⟩
theorem gd_at {t : Tm} {p : List Nat} (hg : gdT 0 t) (hf : freeP t p) (n : Nat) : gdT 0 (walkM t (p.take n)) := gd_walk hg (freeP_take hf n)
/-- What a handler goes on with. -/
theorem back_gd {t : Tm} {p : List Nat} (hg : gdT 0 t) (hok : okP t p) (hf : freeP t p) {n : Nat} (hn : n ≤ p.length) : gdT 0 (backM t p n) := by
 refine ⟨⟨by omega, by omega, by omega⟩, by simp [kidsM], fun h => by omega, fun h => by omega, ⟨?_, trivial⟩, trivial⟩
 rw [fill_from varM hok hn]
 have : moreM 3 ((0 : Nat) : Int) = 1 := by simp [moreM]
 rw [this];exact set_gd (freeP_drop hf hok n hn) (gd_mono (by omega) (gd_at hg hf n)) gd_var
end Go.Proofs.YtkcgkignhpepkaaGreatDoor

/- A step makes a right term of a right one. -/
namespace Go.Proofs.YtkcgkignhpepkaaGreatDoor
open Go Hs
theorem bod_some {s : List Int} {y : Tm} : ∀ {ts : List KT}, bodM s ts = some y → ∃ x ∈ ts, x.2 = y
 | [], h => by simp [bodM] at h
 | x :: ts, h => by
  simp only [bodM] at h
  split at h
  ·simp at h; exact ⟨x, by simp, h⟩
  ·obtain ⟨z, h1, h2⟩ := bod_some h
   exact ⟨z, by simp [h1], h2⟩
theorem kind5 {ts : List KT} {way : List Tm} {len : Nat} {w : Tm} (h : kindW ts way len w = 5) : w.kind = 9 ∧ ∃ v, w.kids[0]? = some v ∧ ((matchM w.cases v).kind != 0) = true := by
 have hk := (kind_inv h).2.2.2.2.1 rfl
 obtain ⟨k, n, r, ks, cs⟩ := w
 simp only [kind_mk] at hk
 subst hk
 refine ⟨rfl, ?_⟩
 simp only [kindW] at h
 simp at h
 simp only [kids_mk]
 cases hf : ks[0]? with
 | none => simp [hf] at h
 | some f =>
  refine ⟨f, rfl, ?_⟩
  simp only [hf] at h
  show ((matchM cs f).kind != 0) = true
  generalize hb : ((matchM cs f).kind != 0) = bb at h
  cases bb
  ·simp at h
  ·rfl
theorem does_gd {ts : List KT} {t : Tm} {p : List Nat} (hg : gdT 0 t) (hok : okP t p) (hf : freeP t p) (hN : tsize t < 2^28) (hb : ∀ x ∈ ts, gdT 0 x.2) {k : Int} (hk : kindM ts t p = k) (hk7 : k ≤ 7) : gdT 0 (doesM ts t p k) := by
 have hw := gd_walk hg hf
 have hws : tsize (walkM t p) ≤ tsize t := walk_size
 have hsh := gd_sh hw
 obtain ⟨i1, i2, i3, i4, i5, i6, i7, ⟨i8, _⟩, _⟩ := kind_inv hk
 have put : ∀ {y : Tm}, gdT 0 y → gdT 0 (hereM t p y) := fun {y} hy => by rw [here_set y hok]; exact set_gd hf hg hy
 have let' : (walkM t p).kind = 5 ∨ (walkM t p).kind = 12 → gdT 0 (letM (walkM t p)) := fun hkk => by
  obtain ⟨x, b, h0, h1⟩ : ∃ x b, (walkM t p).kids[0]? = some x ∧ (walkM t p).kids[1]? = some b := by
   rcases hkk with hkk | hkk
   ·exact len2 hsh (by omega)
   ·exact len12 hsh hkk
  obtain ⟨g1, g2⟩ := let_gd hw hkk h0 h1
  have := kid_size h1
  simp only [letM, h0, h1]
  exact put1_gd g1 g2 (by omega)
 unfold doesM
 by_cases e1 : k = 1
 ·rw [if_pos e1]
  obtain ⟨hk4, f, h0, hf3⟩ := i1 e1
  obtain ⟨f', x, h0', h1⟩ := len2 hsh (by omega)
  obtain rfl : f' = f := Option.some.inj (h0'.symm.trans h0)
  have hfs := gd_sh (gd_kid hw h0)
  obtain ⟨b, hb0⟩ := len1 hfs (by omega)
  obtain ⟨g1, g2⟩ := app_gd hw hk4 h0 hf3 h1 hb0
  have := kid_size h0
  have := kid_size hb0
  refine put ?_
  simp only [appM, h0, h1, hb0]
  exact put1_gd g1 g2 (by omega)
 rw [if_neg e1]
 by_cases e2 : k = 2
 ·rw [if_pos e2]; exact put (let' (.inl (i2 e2)))
 rw [if_neg e2]
 by_cases e3 : k = 3
 ·rw [if_pos e3]
  obtain ⟨_, h⟩ := i3 e3
  obtain ⟨y, hy⟩ := Option.isSome_iff_exists.1 h
  obtain ⟨x, hx, rfl⟩ := bod_some hy
  rw [hy];exact put (hb x hx)
 rw [if_neg e3]
 by_cases e4 : k = 4
 ·rw [if_pos e4]
  obtain ⟨x, y, h0, h1⟩ := len2 hsh (by have := i4 e4; omega)
  refine put ?_
  simp only [priM, h0, h1]
  exact gd_nat _ _
 rw [if_neg e4]
 by_cases e5 : k = 5
 ·rw [if_pos e5]
  subst e5
  obtain ⟨hk9, v, h0, hm⟩ := kind5 hk
  have hv := gd_kid hw h0
  rw [more_let0 (by omega), Int.add_zero] at hv
  have hvs := kid_size h0
  refine put ?_
  simp only [matM, h0]
  generalize walkM t p = w at *
  obtain ⟨wk, wn, wr, ks, cs⟩ := w
  have hc := hw.2.2.2.2.2
  simp only [tsize] at hws hvs
  have hz : (tsize v : Int) + 2 * csizeL cs ≤ 2^50 := by omega
  rw [show (Tm.mk wk wn wr ks cs).cases = cs from rfl] at hm ⊢
  rw [match_kind hv hc (by omega)] at hm
  exact match_gd hv hc (by omega) hm
 rw [if_neg e5]
 by_cases e6 : k = 6
 ·rw [if_pos e6]
  obtain ⟨hk11, hn0, x, hx, hxl⟩ := i6 e6
  obtain ⟨y, hy, hy12, _, hnl⟩ := hand_at _ _ _ hn0
  obtain rfl : y = x := Option.some.inj (hy.symm.trans hx)
  obtain ⟨a, ha⟩ := len1 hsh (by omega)
  have hga := gd_kid hw ha
  rw [more_let0 (by omega), Int.add_zero] at hga
  have hnum : 0 ≤ (walkM t p).num := by
   generalize walkM t p = w at *
   obtain ⟨wk, wn, wr, ks, cs⟩ := w
   exact (hw.2.2.1 hk11).1
  have hxw := way_at hok (by omega) hx
  have hgx := gd_at hg hf (handM (wayM t p) (walkM t p).ref p.length).toNat
  rw [← hxw] at hgx
  obtain ⟨b, hbk⟩ : ∃ b, y.kids[(2 + (walkM t p).num).toNat]? = some b := ⟨_, List.getElem?_eq_getElem (by omega)⟩
  have hgb := gd_kid hgx hbk
  rw [hy12, more_han (by omega)] at hgb
  have hbs := kid_size hbk
  have hys : tsize y ≤ tsize t := by rw [hxw]; exact walk_size
  unfold doM
  rw [ha, ← hxw, hbk]
  simp only
  rw [fill_set _ _ hok (by omega)];refine set_gd (freeP_take hf _) hg (put_gd _ (fun v hv => ?_) b 0 (by omega) (by simp; omega) (by simpa using hgb))
  simp only [List.mem_cons, List.not_mem_nil, or_false] at hv
  rcases hv with rfl | rfl
  ·exact hga
  ·exact back_gd hg hok hf (by omega)
 rw [if_neg e6];exact put (let' (.inr (i7 (by omega))))
end Go.Proofs.YtkcgkignhpepkaaGreatDoor

/- Values put where more variables are free; the case that fits. -/
namespace Go.Proofs.YtkcgkignhpepkaaGreatDoor
open Go Hs
mutual
theorem put_gd2 (vs : List Tm) (hvs : ∀ v ∈ vs, gdT 0 v) : ∀ (t : Tm) (d e : Int), 0 ≤ d → d ≤ e → e + vs.length + 2 * tsize t ≤ 2^60 → gdT (e + vs.length) t → gdT e (putM vs d t)
 | .mk k n r ks cs, d, e, hd, hde, hz, h => by
  simp only [tsize] at hz
  obtain ⟨h1, h2, h3, h4, h5, h6⟩ := h
  have hK := putK_gd2 vs hvs ks d e k 0 hd hde (by omega) h5
  have hC := putC_gd2 vs hvs cs d e hd hde (by omega) h6
  simp only [putM]
  split
  ·rename_i hc
   have hn := h4 hc.1
   have hw : IntKind.wrap .i64 (n - d) = n - d := wrap64 (by omega) (by omega)
   split
   ·exact gd_mono (by omega) (hvs _ (List.getElem_mem _))
   ·rename_i hlt
    rw [hw] at hlt
    refine ⟨h1, by rw [putK_len]; exact h2, fun hk => by omega, fun _ => ?_, hK, hC⟩
    rw [wrap64 (by omega) (by omega)]
    omega
  ·rename_i hc
   refine ⟨h1, by rw [putK_len]; exact h2, h3, fun hk => ?_, hK, hC⟩
   have hn := h4 hk
   refine ⟨hn.1, ?_⟩
   by_cases hv : 0 < vs.length
   ·have : ¬ 0 ≤ IntKind.wrap .i64 (n - d) := fun h0 => hc ⟨hk, h0, hv⟩
    rw [wrap64 (by omega) (by omega)] at this
    omega
   ·omega
theorem putK_gd2 (vs : List Tm) (hvs : ∀ v ∈ vs, gdT 0 v) : ∀ (ks : List Tm) (d e k : Int) (i : Nat), 0 ≤ d → d ≤ e → e + vs.length + 2 + 2 * tsizeL ks ≤ 2^60 → gdK (e + vs.length) k i ks → gdK e k i (putK vs d k i ks)
 | [], _, _, _, _, _, _, _, _ => trivial
 | t :: ts, d, e, k, i, hd, hde, hz, h => by
  simp only [tsizeL] at hz
  have hm := more_b k i
  simp only [putK]
  refine ⟨put_gd2 vs hvs t (d + moreM k i) (e + moreM k i) (by omega) (by omega) (by omega) ?_, putK_gd2 vs hvs ts d e k (i + 1) hd hde (by omega) h.2⟩
  rw [show e + moreM k i + (vs.length : Int) = e + vs.length + moreM k i by omega];exact h.1
theorem putC_gd2 (vs : List Tm) (hvs : ∀ v ∈ vs, gdT 0 v) : ∀ (cs : List Cs) (d e : Int), 0 ≤ d → d ≤ e → e + vs.length + 2 + 2 * csizeL cs ≤ 2^60 → gdC (e + vs.length) cs → gdC e (putC vs d cs)
 | [], _, _, _, _, _, _ => trivial
 | .mk q t :: cs, d, e, hd, hde, hz, h => by
  simp only [csizeL, csize] at hz
  have hm := binds_bound q
  simp only [putC, putS]
  refine ⟨⟨h.1.1, ?_⟩, putC_gd2 vs hvs cs d e hd hde (by omega) h.2⟩
  have h1 : gdT (e + vs.length + bindsM q) t := h.1.2
  show gdT (e + bindsM q) (putM vs (d + bindsM q) t)
  exact put_gd2 vs hvs t (d + bindsM q) (e + bindsM q) (by omega) (by omega) (by omega) (by rw [show e + bindsM q + (vs.length : Int) = e + vs.length + bindsM q by omega]; exact h1)
end
theorem fit_case {v : Tm} : ∀ {cs : List Cs} {o i : Nat} {l : List Tm}, fitI v cs o = some (i, l) → ∃ (j : Nat) (q : Pat) (b : Tm), i = o + j ∧ cs[j]? = some (.mk q b) ∧ l = (fitsM q v).1 ∧ (fitsM q v).2 = true ∧ matchM cs v = putM l 0 b
 | [], _, _, _, h => by simp [fitI] at h
 | .mk q b :: cs, o, i, l, h => by
  simp only [fitI] at h
  by_cases hc : (fitsM q v).2 = true
  ·rw [if_pos hc] at h
   simp at h
   obtain ⟨rfl, rfl⟩ := h
   exact ⟨0, q, b, rfl, rfl, rfl, hc, by simp only [matchM]; rw [if_pos hc]⟩
  ·rw [if_neg hc] at h
   obtain ⟨j, q', b', h1, h2, h3, h4, h5⟩ := fit_case h
   exact ⟨j + 1, q', b', by omega, by simpa using h2, h3, h4, by simp only [matchM]; rw [if_neg hc]; exact h5⟩
theorem drop_put {l : List Tm} {b : Tm} {e : Int} (hl : ∀ x ∈ l, gdT 0 x ∧ tsize x < 2^40) (hn : l.length < 2^40) (hb : gdT e b) (he : e ≤ 2^40) (hz : tsize b < 2^39) {j : Nat} (hj : j < l.length) :
  putM [l[j]] 0 (putM (l.drop (j + 1)) 0 b) = putM (l.drop j) 0 b := by
 rw [List.drop_eq_getElem_cons hj];exact (put_one l[j] (l.drop (j + 1)) (by simp; omega) (fun x hx => hl x (List.mem_of_mem_drop hx)) b 0 e hb (by omega) (by omega) (by omega)).symm
mutual
theorem put_none : ∀ (t : Tm) (d : Int), putM [] d t = t
 | .mk k n r ks cs, d => by
  simp only [putM]
  rw [dif_neg (fun h => absurd h.2.2 (by simp)), putK_none ks d k 0, putC_none cs d]
theorem putK_none : ∀ (ks : List Tm) (d k : Int) (i : Nat), putK [] d k i ks = ks
 | [], _, _, _ => rfl
 | t :: ts, d, k, i => by simp only [putK]; rw [put_none t, putK_none ts d k (i + 1)]
theorem putC_none : ∀ (cs : List Cs) (d : Int), putC [] d cs = cs
 | [], _ => rfl
 | .mk q t :: cs, d => by simp only [putC, putS]; rw [put_none t, putC_none cs d]
end
end Go.Proofs.YtkcgkignhpepkaaGreatDoor

/- The reference: the term behind a step. -/
namespace Go.Proofs.YtkcgkignhpepkaaGreatDoor
open Go Hs
variable {G : List (Nat × TypeId × Pu)}
theorem kid_get {lo : Nat} {ks : List Tm} {j : Nat} {x : Tm} (h : ks[j]? = some x) : (tmsc lo ks)[j]? = some (tmc lo x) := by simp [tms_eq, h]
theorem does1 {ts : List KT} {t : Tm} {p : List Nat} (hok : okP t p) : doesM ts t p 1 = setM t p (appM (walkM t p)) := by unfold doesM; rw [if_pos rfl, here_set _ hok]
theorem does27 {ts : List KT} {t : Tm} {p : List Nat} (hok : okP t p) {k : Int} (h : k = 2 ∨ k = 7) : doesM ts t p k = setM t p (letM (walkM t p)) := by
 unfold doesM
 rcases h with rfl | rfl
 ·rw [if_neg (by omega), if_pos rfl, here_set _ hok]
 ·rw [if_neg (by omega), if_neg (by omega), if_neg (by omega), if_neg (by omega), if_neg (by omega), if_neg (by omega), here_set _ hok]
theorem does3 {ts : List KT} {t : Tm} {p : List Nat} (hok : okP t p) : doesM ts t p 3 = setM t p ((bodM (walkM t p).ref ts).getD noneM) := by unfold doesM; rw [if_neg (by omega), if_neg (by omega), if_pos rfl, here_set _ hok]
theorem does4 {ts : List KT} {t : Tm} {p : List Nat} (hok : okP t p) : doesM ts t p 4 = setM t p (priM (walkM t p)) := by unfold doesM; rw [if_neg (by omega), if_neg (by omega), if_neg (by omega), if_pos rfl, here_set _ hok]
theorem does5 {ts : List KT} {t : Tm} {p : List Nat} (hok : okP t p) : doesM ts t p 5 = setM t p (matM (walkM t p)) := by unfold doesM; rw [if_neg (by omega), if_neg (by omega), if_neg (by omega), if_neg (by omega), if_pos rfl, here_set _ hok]
theorem does6 {ts : List KT} {t : Tm} {p : List Nat} : doesM ts t p 6 = doM t p := by unfold doesM; rw [if_neg (by omega), if_neg (by omega), if_neg (by omega), if_neg (by omega), if_neg (by omega), if_pos rfl]
theorem bod_idx {s : List Int} {y : Tm} : ∀ {ts : List KT}, bodM s ts = some y → ∃ (j : Nat) (h : j < ts.length), (ts[j]).2 = y ∧ fndM s ts = (j : Int)
 | [], h => by simp [bodM] at h
 | x :: ts, h => by
  simp only [bodM] at h
  by_cases hc : s = x.1
  ·rw [if_pos hc] at h
   exact ⟨0, by simp, by simpa using h, by simp [fndM, List.findIdx?_cons, hc]⟩
  ·rw [if_neg hc] at h
   obtain ⟨j, h1, h2, h3⟩ := bod_idx h
   refine ⟨j + 1, by simp; omega, by simpa using h2, ?_⟩
   have hc' : (x.1 == s) = false := by simpa using fun e => hc e.symm
   simp only [fndM] at h3 ⊢
   rw [List.findIdx?_cons, hc']
   cases hq : ts.findIdx? (fun x => x.1 == s) with
   | none => rw [hq] at h3; simp only at h3; omega
   | some i => rw [hq] at h3; simp only at h3 ⊢; simp; omega
theorem ok_take : ∀ {p : List Nat} {t : Tm}, okP t p → ∀ m, okP t (p.take m)
 | [], t, _, m => by simp [okP]
 | j :: q, t, _, 0 => by simp [okP]
 | j :: q, t, ⟨x, hx, h⟩, m + 1 => ⟨x, hx, ok_take h m⟩
set_option maxHeartbeats 4000000 in
theorem rafter_c (a b : Pu) (ts : List KT) (hts : ts.length < 2^40) (t : Tm) (p : List Nat) (hg : gdT 0 t) (hok : okP t p) (hf : freeP t p) (hN : tsize t ≤ 3000) (hz : ∀ i (hi : i < p.length), (walkM t (p.take i)).kind = 12 → p[i] = 0)
  (hb : ∀ x ∈ ts, gdT 0 x.2 ∧ tsize x.2 < 2^28) (kd : Int) (hk : kindM ts t p = kd) (hk7 : kd ≤ 7) :
  FCall Tryz.prog G 116 [.pu (wdP a b ts), .pu (tmc 0 t), iv .i64 kd, .pu (.sl 0 3 (pathL p))] (.pu (tmc 0 (doesM ts t p kd))) := by
 have hpl := path_size hok
 have hw := gd_walk hg hf
 have hws : tsize (walkM t p) ≤ tsize t := walk_size
 have hsh := gd_sh hw
 have hki := kind_inv hk
 have hset := fun y => rset_c (G := G) y p t hok (by omega) (by omega)
 have hat := rat_c (G := G) t p hok (by omega)
 obtain ⟨w, hwe⟩ : ∃ w, w = walkM t p := ⟨_, rfl⟩
 rw [← hwe] at hw hws hsh hki hat
 obtain ⟨k, n, r, ks, cs⟩ := w
 refine FCall.of_tri tbl 142 Tryz.func116 rfl rfl rfl fun w0 M ρ0 D0 => ?_
 refine yR ?_;refine s_box SS 4 ?_;refine s_box SS 5 ?_;refine s_alloc SS 8 ?_;refine e_seqN [4, 5, 8] ?_;refine yR ?_;refine yL ?_;refine yM ?_;refine s_val (v_callD (fun _ => hat)) ?_;refine s_alloc SS 9 ?_;refine yS ?_;refine e_seqN [9] ?_;refine yR ?_;refine s_alloc SS 10 ?_;refine e_seqN [10] ?_;refine yR ?_;refine yM ?_;refine e_seq ?_;refine tQ ?_;refine Tri.block ?_;refine yR ?_;refine yI ?_;refine yA ?_;refine e_seq ?_;refine tQ ?_;refine Tri.cond rfl (fun h0 => ?_) (fun h0 => ?_)
 ·skip
  have e0 : kd = 1 := by simpa using h0
  obtain ⟨hk4, f, g0, hf3⟩ := hki.1 e0
  obtain ⟨f', x, g0', g1⟩ := len2 hsh (by omega)
  obtain rfl : f' = f := Option.some.inj (g0'.symm.trans g0)
  obtain ⟨bb, gb⟩ := len1 (gd_sh (gd_kid hw g0)) (by omega)
  obtain ⟨hgx, hgb⟩ := app_gd hw hk4 g0 hf3 g1 gb
  have hzx := kid_size g1
  have hzf := kid_size g0
  have hzb := kid_size gb
  have hfin := hset (putM [x] 0 bb)
  rw [show setM t p (putM [x] 0 bb) = doesM ts t p kd by rw [e0, does1 hok, ← hwe]; simp only [appM, g0, g1, gb]] at hfin
  obtain ⟨fk, fn, fr, fks, fcs⟩ := f'
  simp only [kids_mk] at g0 g1 gb
  refine yR ?_;refine yF ?_;refine yK ?_;refine s_val (v_index SS (h0 := by omega) (hp := kid_get g0)) ?_;refine yF ?_;refine yK ?_;refine s_val (v_index SS (h0 := by omega) (hp := kid_get gb)) ?_;refine yL ?_;refine yF ?_;refine yK ?_;refine s_val (v_index SS (h0 := by omega) (hp := kid_get g1)) ?_;refine yL ?_;refine s_val (v_callD (fun _ => rinto_c x bb hgx (by omega) 1 hgb (by omega) (by omega))) ?_;refine yS ?_;refine e_draw ?_;refine yR ?_;refine yL ?_;refine yM ?_;refine yL ?_;refine s_val (v_callD (fun _ => hfin)) ?_;refine yS ?_;refine e_seq ?_;refine tQ ?_
  exact Tri.ret ⟨.inr rfl, ret1 rfl resV_cell (VImp.refl _)⟩
 ·skip
  refine yR ?_;refine yI ?_;refine yA ?_;refine e_seq ?_;refine tQ ?_;refine Tri.cutT ⟨[(3, .pu (.sl 0 3 (pathL p))), (4, .ptr 4 [] 26), (5, .ptr 5 [] 32), (8, .ptr 8 [] 32), (9, .ptr 9 [] 32), (10, .ptr 10 [] 32), (21, iv .i64 kd), (36, bv (kd == 2 || kd == 7))], [(4, .var 26 (.pu (wdP a b ts))), (5, .var 32 (.pu (tmc 0 t))), (8, .var 32 (.agg 32 [iv .i64 0, iv .i64 0, .pu (refP Z32), .nilc, .nilc])), (9, .var 32 (.pu (tmc 0 (.mk k n r ks cs)))), (10, .var 32 (.agg 32 [iv .i64 0, iv .i64 0, .pu (refP Z32), .nilc, .nilc]))]⟩ ?_ ?_
  ·skip
   refine tQ ?_;refine Tri.cond rfl (fun h1 => ?_) (fun h1 => ?_)
   ·skip
    refine Tri.skip ?_;refine le_of ?_ ?_
    ·repeat (first | exact SubE.nil | refine SubE.cons rfl (by first | rfl | (rw [wrap64 (by omega) (by omega)]; rfl) | (simp only [*, Bool.true_or, Bool.or_true, Bool.false_or])) ?_)
    ·repeat (first | exact SubH.nil | refine SubH.cons rfl (by first | rfl | (rw [wrap64 (by omega) (by omega)]; rfl) | (simp only [*, Bool.true_or, Bool.or_true, Bool.false_or])) ?_)
   ·skip
    refine yR ?_;refine yI ?_;refine yA ?_;refine e_seq ?_;refine le_of ?_ ?_
    ·repeat (first | exact SubE.nil | refine SubE.cons rfl (by first | rfl | (rw [wrap64 (by omega) (by omega)]; rfl) | (simp only [*, Bool.true_or, Bool.or_true, Bool.false_or])) ?_)
    ·repeat (first | exact SubH.nil | refine SubH.cons rfl (by first | rfl | (rw [wrap64 (by omega) (by omega)]; rfl) | (simp only [*, Bool.true_or, Bool.or_true, Bool.false_or])) ?_)
  ·skip
   refine tQ ?_;refine Tri.cond rfl (fun h2 => ?_) (fun h2 => ?_)
   ·skip
    have e2 : kd = 2 ∨ kd = 7 := by simpa using h2
    have hkk : k = 5 ∨ k = 12 := e2.imp hki.2.1 hki.2.2.2.2.2.2.1
    obtain ⟨x, bb, g0, g1⟩ : ∃ x bb, ks[0]? = some x ∧ ks[1]? = some bb := by
     rcases hkk with h | h
     ·exact len2 hsh (.inr (.inl h))
     ·exact len12 hsh h
    obtain ⟨hgx, hgb⟩ := let_gd hw hkk g0 g1
    have hzx := kid_size (t := .mk k n r ks cs) g0
    have hzb := kid_size (t := .mk k n r ks cs) g1
    have hfin := hset (putM [x] 0 bb)
    rw [show setM t p (putM [x] 0 bb) = doesM ts t p kd by rw [does27 hok e2, ← hwe]; simp only [letM, kids_mk, g0, g1]] at hfin
    refine yR ?_;refine yF ?_;refine yK ?_;refine s_val (v_index SS (h0 := by omega) (hp := kid_get g1)) ?_;refine yL ?_;refine yF ?_;refine yK ?_;refine s_val (v_index SS (h0 := by omega) (hp := kid_get g0)) ?_;refine yL ?_;refine s_val (v_callD (fun _ => rinto_c x bb hgx (by omega) 1 hgb (by omega) (by omega))) ?_;refine yS ?_;refine e_draw ?_;refine yR ?_;refine yL ?_;refine yM ?_;refine yL ?_;refine s_val (v_callD (fun _ => hfin)) ?_;refine yS ?_;refine e_seq ?_;refine tQ ?_;exact Tri.ret ⟨.inr rfl, ret1 rfl resV_cell (VImp.refl _)⟩
   ·skip
    refine yR ?_;refine yI ?_;refine yA ?_;refine e_seq ?_;refine tQ ?_;refine Tri.cond rfl (fun h3 => ?_) (fun h3 => ?_)
    ·skip
     have e3 : kd = 3 := by simpa using h3
     obtain ⟨hk6, hbs⟩ := hki.2.2.1 e3
     obtain ⟨y, hy⟩ := Option.isSome_iff_exists.1 hbs
     obtain ⟨j, hj, hjx, hfd⟩ := bod_idx hy
     subst hjx
     have hfin := hset ts[j].2
     rw [show setM t p ts[j].2 = doesM ts t p kd by rw [e3, does3 hok, ← hwe, hy]; rfl] at hfin
     refine yR ?_;refine yF ?_;refine yK ?_;refine yF ?_;refine yK ?_;refine yF ?_;refine yL ?_;refine s_val (v_callD (fun _ => rfind_c ts r hts)) ?_;refine s_val (v_index SS (h0 := by rw [show fndM r ts = (j : Int) from hfd]; omega) (hp := by rw [show fndM r ts = (j : Int) from hfd, Int.toNat_natCast]; exact kt_get hj)) ?_;refine yF ?_;refine yL ?_;refine yS ?_;refine e_draw ?_;refine yR ?_;refine yL ?_;refine yM ?_;refine yL ?_;refine s_val (v_callD (fun _ => hfin)) ?_;refine yS ?_;refine e_seq ?_;refine tQ ?_;exact Tri.ret ⟨.inr rfl, ret1 rfl resV_cell (VImp.refl _)⟩
    ·skip
     refine yR ?_;refine yI ?_;refine yA ?_;refine e_seq ?_;refine tQ ?_;refine Tri.cond rfl (fun h4 => ?_) (fun h4 => ?_)
     ·skip
      have e4 : kd = 4 := by simpa using h4
      obtain ⟨x, y, g0, g1⟩ := len2 hsh (by have := hki.2.2.2.1 e4; omega)
      have hfin := hset (natM (capM (primV n x.num y.num)))
      rw [show setM t p (natM (capM (primV n x.num y.num))) = doesM ts t p kd by rw [e4, does4 hok, ← hwe]; simp only [priM, g0, g1]; rfl] at hfin
      obtain ⟨xk, xn, xr, xks, xcs⟩ := x
      obtain ⟨yk, yn, yr, yks, ycs⟩ := y
      simp only [kids_mk] at g0 g1
      simp only [num_mk] at hfin
      refine yR ?_;refine yF ?_;refine yL ?_;refine yF ?_;refine yK ?_;refine s_val (v_index SS (h0 := by omega) (hp := kid_get g0)) ?_;refine yF ?_;refine yL ?_;refine yF ?_;refine yK ?_;refine s_val (v_index SS (h0 := by omega) (hp := kid_get g1)) ?_;refine yF ?_;refine yL ?_;refine s_val (v_callD (fun _ => rnumber_c n xn yn)) ?_;refine yP ?_;refine yS ?_;refine e_draw ?_;refine yR ?_;refine yL ?_;refine yM ?_;refine yL ?_;refine s_val (v_callD (fun _ => hfin)) ?_;refine yS ?_;refine e_seq ?_;refine tQ ?_;exact Tri.ret ⟨.inr rfl, ret1 rfl resV_cell (VImp.refl _)⟩
     ·skip
      refine yR ?_;refine yI ?_;refine yA ?_;refine e_seq ?_;refine tQ ?_;refine Tri.cond rfl (fun h5 => ?_) (fun h5 => ?_)
      ·skip
       have e5 : kd = 5 := by simpa using h5
       obtain ⟨hk9, v, g0, hm⟩ := kind5 (w := .mk k n r ks cs) (show kindW ts (wayM t p) p.length (.mk k n r ks cs) = 5 by rw [hwe]; exact hk.trans e5)
       have hv := gd_kid hw g0
       rw [more_let0 (by omega), Int.add_zero] at hv
       have hzv := kid_size g0
       have hc := hw.2.2.2.2.2
       have hws' := hws
       simp only [tsize] at hws' hzv
       rw [show (Tm.mk k n r ks cs).cases = cs from rfl, match_kind hv hc (by omega)] at hm
       obtain ⟨⟨i, l⟩, hfi⟩ := Option.isSome_iff_exists.1 hm
       obtain ⟨j, q, bb, hij, hcj, hl, hlf, hmc⟩ := fit_case hfi
       obtain ⟨hpe, hgb⟩ := gdC_mem hc _ (List.mem_of_getElem? hcj)
       simp only [csP, csT] at hpe hgb
       have hlb := fits_binds q v hlf hpe
       rw [← hl] at hlb
       have hlg : ∀ x ∈ l, gdT 0 x := fun x hx => fits_gd q hv x (hl ▸ hx)
       have hlz : ∀ x ∈ l, tsize x ≤ tsize v := fun x hx => fits_sz q v x (hl ▸ hx)
       have hll : l.length ≤ tsize v := hl ▸ fits_b q v
       have hzb := csize_mem (List.mem_of_getElem? hcj)
       simp only [csize] at hzb
       have hfin := hset (putM l 0 bb)
       rw [show setM t p (putM l 0 bb) = doesM ts t p kd by rw [e5, does5 hok, ← hwe]; simp only [matM, g0]; rw [← hmc]; rfl] at hfin
       have hsz : ∀ m, tsize (putM (l.drop m) 0 bb) ≤ 3000 * 3001 := fun m => by
        have h1 := put_size (l.drop m) (tsize v) (fun x hx => hlz x (List.mem_of_mem_drop hx)) bb 0
        exact Nat.le_trans h1 (Nat.mul_le_mul (by omega) (by omega))
       have hgd : ∀ m, gdT (l.length : Nat) (putM (l.drop m) 0 bb) := fun m => put_gd2 (l.drop m) (fun x hx => hlg x (List.mem_of_mem_drop hx)) bb 0 (l.length : Nat) (by omega) (by omega) (by simp; omega) (gd_mono (by omega) hgb)
       simp only [kids_mk] at g0
       cases ks with
       | nil => simp at g0
       | cons v' ks' =>
       obtain rfl : v' = v := by simpa using g0
       have hcg : (cssc 0 cs)[i]? = some (csec 0 (.mk q bb)) := by rw [hij]; simp [css_eq, hcj]
       have hfc : FCall Tryz.prog G 91 [.pu (tmc 0 (.mk k n r (v' :: ks') cs))] (.tup [iv .i64 (i : Int), .pu (.sl 0 32 (tmsc 0 l))]) := by
        have := rfitting_c (G := G) k n r v' ks' cs (by omega)
        rw [hfi] at this
        exact this
       refine yR ?_;refine yL ?_;refine s_val (v_callD (fun _ => hfc)) ?_;refine yM ?_;refine yX ?_;refine yX ?_;refine yA ?_;refine yA ?_;refine e_seq ?_;refine yR ?_;refine yF ?_;refine yK ?_;refine yM ?_;refine s_val (v_index SS (i := (i : Int)) (h0 := by omega) (hp := by rw [Int.toNat_natCast]; exact hcg)) ?_;refine yF ?_;refine yL ?_;refine yS ?_;refine e_seq ?_;refine yR ?_;refine yM ?_;refine yC ?_;refine yI ?_;refine yA ?_;refine e_seq ?_;refine tQ ?_
       refine Tri.block (Tri.loopW (σ := {m : Nat // m ≤ l.length}) (fun i => ⟨[(3, .pu (.sl 0 3 (pathL p))), (5, .ptr 5 [] 32), (8, .ptr 8 [] 32), (10, .ptr 10 [] 32), (12, .pu (.sl 0 32 (tmsc 0 l))), (13, iv .i64 ((i.1 : Int) - 1))], [(5, .var 32 (.pu (tmc 0 t))), (8, .var 32 (.agg 32 [iv .i64 0, iv .i64 0, .pu (refP Z32), .nilc, .nilc])), (10, .var 32 (.pu (tmc 0 (putM (l.drop i.1) 0 bb))))]⟩) (fun i => i.1) ⟨l.length, Nat.le_refl _⟩ ?_ ?_ (fun i => ?_))
       ·repeat (first | exact .nil | refine .cons rfl (by first | exact .refl | (focus ((repeat constructor); done)) | (first | (rw [tms_length, wrap64 (by omega) (by omega)]; exact .refl) | (rw [List.drop_length, put_none]; exact .refl))) ?_)
       ·repeat (first | exact .nil | refine .cons rfl (by first | exact .refl | (focus ((repeat constructor); done)) | (first | (rw [tms_length, wrap64 (by omega) (by omega)]; exact .refl) | (rw [List.drop_length, put_none]; exact .refl))) ?_)
       refine yR ?_;refine yM ?_;refine yI ?_;refine e_seq ?_;refine tQ ?_;refine Tri.cond rfl (fun h6 => ?_) (fun h6 => ?_)
       ·skip
        have h6' : 1 ≤ i.1 := by simp at h6; omega
        obtain ⟨m, hm⟩ := i
        obtain ⟨m, rfl⟩ : ∃ m', m = m' + 1 := ⟨m - 1, by simp only at h6'; omega⟩
        have hidx : ((m + 1 : Nat) : Int) - 1 = (m : Int) := by omega
        have hstep := drop_put (e := (l.length : Nat)) (fun x hx => ⟨hlg x hx, by have := hlz x hx; omega⟩) (by omega) (gd_mono (by omega) hgb) (by omega) (by omega) hm
        refine Tri.skip ?_;refine tQ ?_;refine Tri.block ?_;refine yR ?_;refine yL ?_;refine yM ?_;refine yM ?_;refine s_val (v_index SS (i := ((m + 1 : Nat) : Int) - 1) (h0 := by omega) (hp := by rw [hidx, Int.toNat_natCast]; exact tms_get hm)) ?_;refine yL ?_;refine s_val (v_callD (fun _ => rinto_c l[m] (putM (l.drop (m + 1)) 0 bb) (hlg _ (List.getElem_mem hm)) (by have := hlz _ (List.getElem_mem hm); omega) (l.length : Nat) (hgd (m + 1)) (by have := hsz (m + 1); omega) (by omega))) ?_;refine yS ?_;refine e_draw ?_;refine yR ?_;refine yM ?_;refine yI ?_;refine yA ?_;refine e_seq ?_
        refine ⟨⟨m, by omega⟩, by show m < m + 1; omega, le_of ?_ ?_⟩
        ·repeat (first | exact SubE.nil | refine SubE.cons rfl (by first | rfl | (rw [wrap64 (by omega) (by omega)]; rfl) | (first | (dsimp only; rw [wrap64 (by omega) (by omega), show ((m + 1 : Nat) : Int) - 1 - 1 = (m : Int) - 1 by omega]; done) | (dsimp only; rw [hstep]; done) | (dsimp only; rw [wrap64 (by omega) (by omega), show ((m + 1 : Nat) : Int) - 1 - 1 = (m : Int) - 1 by omega]; rfl) | (dsimp only; rw [hstep]; rfl))) ?_)
        ·repeat (first | exact SubH.nil | refine SubH.cons rfl (by first | rfl | (rw [wrap64 (by omega) (by omega)]; rfl) | (first | (dsimp only; rw [wrap64 (by omega) (by omega), show ((m + 1 : Nat) : Int) - 1 - 1 = (m : Int) - 1 by omega]; done) | (dsimp only; rw [hstep]; done) | (dsimp only; rw [wrap64 (by omega) (by omega), show ((m + 1 : Nat) : Int) - 1 - 1 = (m : Int) - 1 by omega]; rfl) | (dsimp only; rw [hstep]; rfl))) ?_)
       ·skip
        have hm0 : i.1 = 0 := by simp at h6; omega
        rw [hm0, List.drop_zero];refine Tri.exit ?_;refine yR ?_;refine yL ?_;refine yM ?_;refine yL ?_;refine s_val (v_callD (fun _ => hfin)) ?_;refine yS ?_;refine e_seq ?_;refine tQ ?_;exact Tri.ret ⟨.inr rfl, ret1 rfl resV_cell (VImp.refl _)⟩
      ·skip
       refine yR ?_;refine yI ?_;refine yA ?_;refine e_seq ?_;refine tQ ?_;refine Tri.cond rfl (fun h7 => ?_) (fun h7 => ?_)
       ·skip
        have e6 : kd = 6 := by simpa using h7
        obtain ⟨hk11, hn0, x, hx, hxl⟩ := hki.2.2.2.2.2.1 e6
        rw [ref_mk] at hn0 hx
        rw [num_mk] at hxl
        obtain ⟨y, hy, hy12, _, hnl⟩ := hand_at _ _ _ hn0
        obtain rfl : y = x := Option.some.inj (hy.symm.trans hx)
        obtain ⟨a0, ha⟩ := len1 hsh (.inr (.inr hk11))
        have hga := gd_kid hw ha
        rw [more_let0 (by simp only [kind_mk] at hk11 ⊢; omega), Int.add_zero] at hga
        have hnum := hw.2.2.1 hk11
        have hrh := rhandler_c (G := G) t p hok (by omega) hz
        rw [← hwe, ref_mk] at hrh
        have hdo : doM t p = fillM (wayM t p) p 0 (handM (wayM t p) r p.length).toNat (putM [a0, backM t p (handM (wayM t p) r p.length).toNat] 0 (y.kids[(2 + n).toNat]'(by omega))) := by
         have hxw := way_at hok (by omega) hx
         unfold doM
         rw [← hwe]
         simp only [ref_mk, num_mk]
         rw [ha, ← hxw, List.getElem?_eq_getElem (by omega)]
        obtain ⟨m, hm⟩ : ∃ m : Nat, handM (wayM t p) r p.length = (m : Int) := ⟨_, (Int.toNat_of_nonneg hn0).symm⟩
        rw [hm] at hrh hdo hx hnl hn0
        simp only [Int.toNat_natCast] at hdo hx hnl
        have hxw := way_at hok (by omega) hx
        have hgx := gd_at hg hf m
        rw [← hxw] at hgx
        have hys : tsize y ≤ tsize t := by rw [hxw]; exact walk_size
        have hlt : (2 + n).toNat < y.kids.length := by omega
        obtain ⟨b0, hb0⟩ : ∃ b0, b0 = y.kids[(2 + n).toNat] := ⟨_, rfl⟩
        have hbk : y.kids[(2 + n).toNat]? = some b0 := by rw [hb0]; exact List.getElem?_eq_getElem hlt
        rw [← hb0] at hdo
        have hgb := gd_kid hgx hbk
        rw [hy12, more_han (by omega)] at hgb
        have hbs := kid_size hbk
        have has := kid_size ha
        have hgk := back_gd hg hok hf (n := m) (by omega)
        have hokd := (way_drop m hok (by omega)).2
        rw [← hxw] at hokd
        have hhole : fillM (wayM t p) p m p.length varM = setM y (p.drop m) varM := by rw [hxw]; exact fill_from varM hok (by omega)
        have hbz : tsize (backM t p m) ≤ 3002 := by
         have := fill_size hok m p.length varM (Nat.le_refl _)
         simp only [backM, tsize, tsizeL, csizeL]
         simp only [varM, tsize, tsizeL, csizeL] at this ⊢
         omega
        have hback : backM t p m = .mk 3 0 Z32 [setM y (p.drop m) varM] [] := by unfold backM; rw [hhole]
        have hput := put_one a0 [backM t p m] (by simp) (fun x hx => by simp at hx; subst hx; exact ⟨hgk, by omega⟩) b0 0 2 (by simpa using hgb) (by omega) (by omega) (by omega)
        have hokt := ok_take hok m
        have hat2 := rat_c (G := G) t (p.take m) hokt (by simp; omega)
        rw [← hxw] at hat2
        have hpt : pathL (p.take m) = (pathL p).take m := by simp [pathL, List.map_take]
        have hpd : pathL (p.drop m) = (pathL p).drop m := by simp [pathL, List.map_drop]
        rw [hpt] at hat2
        have hsh2 := rset_c (G := G) varM (p.drop m) y hokd (by omega) (by simp; omega)
        rw [hpd] at hsh2
        have hi1 := rinto_c (G := G) (backM t p m) b0 hgk (by omega) 2 (by simpa using hgb) (by omega) (by omega)
        rw [hback] at hi1
        have hpz : tsize (putM [backM t p m] 0 b0) ≤ 3000 * 3003 := Nat.le_trans (put_size [backM t p m] 3002 (fun x hx => by simp at hx; subst hx; exact hbz) b0 0) (Nat.mul_le_mul (by omega) (by omega))
        have hi2 := rinto_c (G := G) a0 (putM [backM t p m] 0 b0) hga (by omega) 1 (put_gd2 [backM t p m] (fun x hx => by simp at hx; subst hx; exact hgk) b0 0 1 (by omega) (by omega) (by simp; omega) (by simpa using hgb)) (by omega) (by omega)
        rw [← hput] at hi2
        rw [hback] at hi2 hdo
        have hfin := rset_c (G := G) (putM [a0, .mk 3 0 Z32 [setM y (p.drop m) varM] []] 0 b0) (p.take m) t hokt (by omega) (by simp; omega)
        rw [show setM t (p.take m) (putM [a0, .mk 3 0 Z32 [setM y (p.drop m) varM] []] 0 b0) = doesM ts t p kd by rw [e6, does6, hdo, fill_set _ _ hok (by omega)], hpt] at hfin
        obtain ⟨yk, yn, yr, yks, ycs⟩ := y
        simp only [kids_mk] at hbk ha hlt
        have hwn : IntKind.wrap .i64 (2 + n) = 2 + n := wrap64 (by omega) (by omega)
        refine yR ?_;refine yL ?_;refine yM ?_;refine s_val (v_callD (fun _ => hrh)) ?_;refine yA ?_;refine e_seq ?_;refine yR ?_;refine yL ?_;refine yM ?_;refine yM ?_;refine s_val (v_sliceTo SS (ps := pathL p) (r := m) (by rw [path_len]; omega)) ?_;refine s_val (v_callD (fun _ => hat2)) ?_;refine s_alloc SS 15 ?_;refine yS ?_;refine e_drawN [15] ?_;refine yR ?_;refine yL ?_;refine yM ?_;refine yM ?_;refine s_val (v_sliceFrom SS (ps := pathL p) (l := m) (by rw [path_len]; omega)) ?_;refine yP ?_;refine s_val (v_callD (fun _ => hsh2)) ?_;refine s_alloc SS 16 ?_;refine yS ?_;refine e_drawN [16] ?_
        refine yR ?_;refine yL ?_;refine yZ ?_;refine yP ?_;refine s_alloc SS 17 ?_;refine yS ?_;refine e_seqN [17] ?_;refine yR ?_;refine yF ?_;refine yK ?_;refine yF ?_;refine yL ?_;refine yI ?_;refine s_val (v_index SS (h0 := by rw [hwn]; omega) (hp := by rw [hwn]; exact kid_get hbk)) ?_;refine yL ?_;refine yL ?_;refine s_val (v_callD (fun _ => hi1)) ?_;refine yF ?_;refine yK ?_;refine s_val (v_index SS (h0 := by omega) (hp := kid_get ha)) ?_;refine yL ?_;refine s_val (v_callD (fun _ => hi2)) ?_;refine yS ?_;refine e_draw ?_;refine yR ?_;refine yM ?_;refine yM ?_
        refine s_val (v_sliceTo SS (ps := pathL p) (r := m) (by rw [path_len]; omega)) ?_;refine yA ?_;refine e_seq ?_;refine yR ?_;refine yL ?_;refine yM ?_;refine yL ?_;refine s_val (v_callD (fun _ => hfin)) ?_;refine yS ?_;refine e_seq ?_;refine tQ ?_;exact Tri.ret ⟨.inr rfl, ret1 rfl resV_cell (VImp.refl _)⟩
       ·exfalso
        have := hki.2.2.2.2.2.2.2.1
        simp at h0 h2 h3 h4 h5 h7
        omega
end Go.Proofs.YtkcgkignhpepkaaGreatDoor

/- StepChecks: the walk. -/
namespace Go.Proofs.YtkcgkignhpepkaaGreatDoor
open Go Hs
theorem sameW_refl (ts : List KT) : sameW ts ts = true := eqLM_refl fun x _ => by simp [sameK, sameT_refl]
end Go.Proofs.YtkcgkignhpepkaaGreatDoor

/- What the checker asks at each node alone, and that steps keep it. -/
namespace Go.Proofs.YtkcgkignhpepkaaGreatDoor
open Go Hs
def locM (k n : Int) (r : List Int) (nc : Nat) : Prop :=
 clashM (hasNumM k) (hasRefM k) (hasCasesM k) n r nc = false ∧ nc ≤ 8 ∧ (k == 10 && offM n 1 5) = false ∧ ((k == 2 || k == 8 || k == 11) && offM n 0 (if k == 8 || k == 11 then 7 else 1073741824)) = false
mutual
def lcT : Tm → Prop
 | .mk k n r ks cs => locM k n r cs.length ∧ lcK ks ∧ lcC cs
def lcK : List Tm → Prop
 | [] => True
 | t :: ts => lcT t ∧ lcK ts
def lcC : List Cs → Prop
 | [] => True
 | c :: cs => lcS c ∧ lcC cs
def lcS : Cs → Prop
 | .mk _ t => lcT t
end
theorem termErr_loc {m d b k n : Int} {r : List Int} {nk nc : Nat} (h : termErr m d b k n r nk nc = 0) : locM k n r nc := by
 unfold termErr at h
 by_cases h0 : offM k 1 12 = true
 ·rw [if_pos h0] at h; omega
 rw [if_neg h0] at h
 by_cases h1 : clashM (hasNumM k) (hasRefM k) (hasCasesM k) n r nc = true
 ·rw [if_pos h1] at h; omega
 rw [if_neg h1] at h
 by_cases h2 : (!kidsM k nk || decide ((nc : Int) > 8)) = true
 ·rw [if_pos h2] at h; omega
 rw [if_neg h2] at h
 by_cases h3 : (k == 10 && offM n 1 5) = true
 ·rw [if_pos h3] at h; omega
 rw [if_neg h3] at h
 by_cases h4 : (k == 1 && !knownM d n b) = true
 ·rw [if_pos h4] at h; omega
 rw [if_neg h4] at h
 by_cases h5 : (k == 7 && (decide (n < 0) || decide (n ≥ m))) = true
 ·rw [if_pos h5] at h; omega
 rw [if_neg h5] at h
 by_cases h6 : ((k == 2 || k == 8 || k == 11) && offM n 0 (if k == 8 || k == 11 then 7 else 1073741824)) = true
 ·rw [if_pos h6] at h; omega
 simp only [Bool.or_eq_true, not_or, Bool.not_eq_true, decide_eq_true_eq] at h2
 exact ⟨by simpa using h1, by omega, by simpa using h3, by simpa using h6⟩
theorem loc_termErr {m d b k n : Int} {r : List Int} {nk nc : Nat} (h : locM k n r nc) (h1 : 1 ≤ k ∧ k ≤ 12 ∧ k ≠ 7) (h2 : kidsM k nk = true) (h3 : k = 1 → 0 ≤ n ∧ n < b) : termErr m d b k n r nk nc = 0 := by
 obtain ⟨g1, g2, g3, g4⟩ := h
 unfold termErr
 rw [if_neg (by simp [offM]; omega), if_neg (by rw [g1]; decide), if_neg (by rw [h2]; simp; omega), if_neg (by rw [g3]; decide)]
 rw [if_neg (by
  by_cases e : k = 1
  ·have := h3 e
   simp [e, knownM]; omega
  ·simp [e]), if_neg (by simp; omega), if_neg (by rw [g4]; decide)]
mutual
theorem aerr_lc {m d : Int} : ∀ {t : Tm} {b : Int}, aerr m d b t = 0 → lcT t
 | .mk k n r ks cs, b, h => by
  simp only [aerr] at h
  obtain ⟨h1, h⟩ := orE_zero h
  obtain ⟨_, h⟩ := orE_zero h
  obtain ⟨h2, h3⟩ := orE_zero h
  exact ⟨termErr_loc h1, aerrK_lc h2, aerrC_lc h3⟩
theorem aerrK_lc {m d : Int} : ∀ {ks : List Tm} {b k : Int} {i : Nat}, aerrK m d b k i ks = 0 → lcK ks
 | [], _, _, _, _ => trivial
 | t :: ts, b, k, i, h => by
  simp only [aerrK] at h
  obtain ⟨h1, h2⟩ := orE_zero h
  exact ⟨aerr_lc h1, aerrK_lc h2⟩
theorem aerrC_lc {m d : Int} : ∀ {cs : List Cs} {b : Int}, aerrC m d b cs = 0 → lcC cs
 | [], _, _ => trivial
 | .mk q t :: cs, b, h => by
  simp only [aerrC, aerrCs] at h
  obtain ⟨h1, h2⟩ := orE_zero h
  exact ⟨aerr_lc (t := t) h1, aerrC_lc h2⟩
end
mutual
theorem gd_aerr {m d : Int} : ∀ {t : Tm} {b : Int}, gdT b t → lcT t → aerr m d b t = 0
 | .mk k n r ks cs, b, h, hl => by
  obtain ⟨g1, g2, g3, g4, g5, g6⟩ := h
  simp only [aerr, loc_termErr hl.1 g1 g2 g4, gd_aerrK g5 hl.2.1, gd_aerrC g6 hl.2.2]
  have : firstE (fun c => perr (csP c)) cs = 0 := gdC_perr g6
  rw [this]; rfl
theorem gd_aerrK {m d : Int} : ∀ {ks : List Tm} {b k : Int} {i : Nat}, gdK b k i ks → lcK ks → aerrK m d b k i ks = 0
 | [], _, _, _, _, _ => rfl
 | t :: ts, b, k, i, h, hl => by
  simp only [aerrK, gd_aerr h.1 hl.1, gd_aerrK h.2 hl.2]; rfl
theorem gd_aerrC {m d : Int} : ∀ {cs : List Cs} {b : Int}, gdC b cs → lcC cs → aerrC m d b cs = 0
 | [], _, _, _ => rfl
 | .mk q t :: cs, b, h, hl => by
  have h1 : aerr m d (b + bindsM q) t = 0 := gd_aerr h.1.2 hl.1
  simp only [aerrC, aerrCs, h1, gd_aerrC h.2 hl.2]; rfl
theorem gdC_perr : ∀ {cs : List Cs} {b : Int}, gdC b cs → firstE (fun c => perr (csP c)) cs = 0
 | [], _, _ => rfl
 | .mk q t :: cs, b, h => by
  have h1 : perr q = 0 := h.1.1
  simp only [firstE, csP, h1, if_true]
  exact gdC_perr h.2
end
theorem lc_none : lcT noneM := by simp [noneM, lcT, lcK, lcC, locM, clashM, offM]
theorem lc_var : lcT varM := by simp [varM, lcT, lcK, lcC, locM, clashM, offM]
theorem cap_b (x : Int) : 0 ≤ capM x ∧ capM x ≤ 1073741824 := by unfold capM; omega
theorem lc_prim (op a b : Int) : lcT (primM op a b) := by
 have := cap_b (primV op a b)
 unfold primM natM
 generalize capM (primV op a b) = x at *
 simp [lcT, lcK, lcC, locM, clashM, offM, hasNumM]
 omega
theorem lcK_mem : ∀ {ks : List Tm}, lcK ks → ∀ x ∈ ks, lcT x
 | _ :: _, h, x, hx => by
  rcases List.mem_cons.1 hx with rfl | hx
  ·exact h.1
  ·exact lcK_mem h.2 x hx
theorem putC_len2 (vs : List Tm) : ∀ (cs : List Cs) (d : Int), (putC vs d cs).length = cs.length
 | [], _ => rfl
 | .mk q t :: cs, d => by simp [putC, putC_len2 vs cs d]
mutual
theorem lc_put (vs : List Tm) (hv : ∀ v ∈ vs, lcT v) : ∀ (t : Tm) (d : Int), lcT t → lcT (putM vs d t)
 | .mk k n r ks cs, d, h => by
  obtain ⟨h1, h3, h4⟩ := h
  have k1 := lc_putK vs hv ks d k 0 h3
  have k2 := lc_putC vs hv cs d h4
  simp only [putM]
  split
  ·rename_i hC
   split
   ·exact hv _ (List.getElem_mem _)
   ·refine ⟨?_, k1, k2⟩
    rw [putC_len2]
    have e := hC.1
    subst e
    simpa [locM, clashM, hasNumM] using h1
  ·exact ⟨by rw [putC_len2]; exact h1, k1, k2⟩
theorem lc_putK (vs : List Tm) (hv : ∀ v ∈ vs, lcT v) : ∀ (ks : List Tm) (d k : Int) (i : Nat), lcK ks → lcK (putK vs d k i ks)
 | [], _, _, _, _ => trivial
 | t :: ts, d, k, i, h => ⟨lc_put vs hv t _ h.1, lc_putK vs hv ts d k (i + 1) h.2⟩
theorem lc_putC (vs : List Tm) (hv : ∀ v ∈ vs, lcT v) : ∀ (cs : List Cs) (d : Int), lcC cs → lcC (putC vs d cs)
 | [], _, _ => trivial
 | c :: cs, d, h => ⟨lc_putS vs hv c d h.1, lc_putC vs hv cs d h.2⟩
theorem lc_putS (vs : List Tm) (hv : ∀ v ∈ vs, lcT v) : ∀ (c : Cs) (d : Int), lcS c → lcS (putS vs d c)
 | .mk q t, d, h => lc_put vs hv t _ h
end
theorem lc_kid {t x : Tm} {i : Nat} (h : lcT t) (hx : t.kids[i]? = some x) : lcT x := by
 obtain ⟨k, n, r, ks, cs⟩ := t
 exact lcK_mem h.2.1 _ (List.mem_of_getElem? hx)
theorem lc_walk : ∀ {t : Tm} {p : List Nat}, lcT t → lcT (walkM t p)
 | t, [], h => h
 | t, i :: p, h => by
  simp only [walkM]
  split
  ·rename_i x hx; exact lc_walk (lc_kid h hx)
  ·exact h
theorem lcK_set : ∀ {ks : List Tm} {j : Nat} {x : Tm}, lcK ks → lcT x → lcK (ks.set j x)
 | [], _, _, _, _ => trivial
 | t :: ts, 0, x, h, hx => ⟨hx, h.2⟩
 | t :: ts, j + 1, x, h, hx => ⟨h.1, lcK_set h.2 hx⟩
theorem lc_set {t x : Tm} {j : Nat} (h : lcT t) (hx : lcT x) : lcT (setKid t j x) := by
 obtain ⟨k, n, r, ks, cs⟩ := t
 exact ⟨h.1, lcK_set h.2.1 hx, h.2.2⟩
theorem lc_fill {t : Tm} {p : List Nat} (hok : okP t p) (ht : lcT t) (lo : Nat) : ∀ (hi : Nat) (x : Tm), hi ≤ p.length → lcT x → lcT (fillM (wayM t p) p lo hi x)
 | 0, x, _, h => h
 | n + 1, x, hn, h => by
  simp only [fillM]
  split
  ·exact h
  ·rw [way_get hok (by omega), List.getElem?_eq_getElem (show n < p.length by omega)]
   exact lc_fill hok ht lo n _ (by omega) (lc_set (lc_walk ht) h)
mutual
theorem lc_fits : ∀ (p : Pat) (v : Tm), lcT v → ∀ x ∈ (fitsM p v).1, lcT x
 | .mk k n r ks, v, h, x, hx => by
  simp only [fitsM] at hx
  split at hx
  ·simp at hx; rw [hx]; exact h
  ·split at hx
   ·simp at hx
   ·split at hx
    ·split at hx
     ·simp at hx
     ·obtain ⟨k', n', r', ks', cs'⟩ := v
      exact lc_fitsL ks ks' h.2.1 x hx
    ·simp at hx
theorem lc_fitsL : ∀ (ps : List Pat) (vs : List Tm), lcK vs → ∀ x ∈ (fitsL ps vs).1, lcT x
 | [], vs, _, x, hx => by simp [fitsL] at hx
 | _ :: _, [], _, x, hx => by simp [fitsL] at hx
 | p :: ps, v :: vs, h, x, hx => by
  simp only [fitsL, fitAdd] at hx
  split at hx
  ·rcases List.mem_append.1 hx with h' | h'
   ·exact lc_fits p v h.1 x h'
   ·exact lc_fitsL ps vs h.2 x h'
  ·simp at hx
end
theorem lc_match : ∀ (cs : List Cs) (v : Tm), lcC cs → lcT v → lcT (matchM cs v)
 | [], v, _, _ => lc_none
 | .mk q b :: cs, v, h, hv => by
  simp only [matchM]
  split
  ·exact lc_put _ (lc_fits q v hv) b 0 h.1
  ·exact lc_match cs v h.2 hv
theorem lc_bod {s : List Int} {y : Tm} : ∀ {ts : List KT}, (∀ x ∈ ts, lcT x.2) → bodM s ts = some y → lcT y
 | [], _, h => by cases h
 | x :: ts, h, hy => by
  simp only [bodM] at hy
  split at hy
  ·simp at hy; rw [← hy]; exact h x (by simp)
  ·exact lc_bod (fun z hz => h z (by simp [hz])) hy
theorem does_lc {ts : List KT} (hb : ∀ x ∈ ts, lcT x.2) {t0 : Tm} {p : List Nat} (hs : lcT t0) (hok : okP t0 p) (k : Int) : lcT (doesM ts t0 p k) := by
 have hw := lc_walk (p := p) hs
 have here : ∀ y, lcT y → lcT (hereM t0 p y) := fun y hy => lc_fill hok hs 0 _ _ (Nat.le_refl _) hy
 have hput : ∀ x y, lcT x → lcT y → lcT (putM [x] 0 y) := fun x y hx hy => lc_put _ (fun v hv => by simp at hv; rw [hv]; exact hx) _ _ hy
 have hlet : lcT (letM (walkM t0 p)) := by
  unfold letM
  split
  ·rename_i x b h1 h2; exact hput _ _ (lc_kid hw h1) (lc_kid hw h2)
  ·exact lc_none
 unfold doesM
 split
 ·refine here _ ?_
  unfold appM
  split
  ·rename_i f x h1 h2
   split
   ·rename_i b h3; exact hput _ _ (lc_kid hw h2) (lc_kid (lc_kid hw h1) h3)
   ·exact lc_none
  ·exact lc_none
 split
 ·exact here _ hlet
 split
 ·refine here _ ?_
  cases hy : bodM (walkM t0 p).ref ts with
  | none => exact lc_none
  | some y => exact lc_bod hb hy
 split
 ·refine here _ ?_
  unfold priM
  split
  ·exact lc_prim _ _ _
  ·exact lc_none
 split
 ·refine here _ ?_
  unfold matM
  split
  ·rename_i v hv
   have hv' := lc_kid hw hv
   generalize walkM t0 p = w at hw
   obtain ⟨k, n, r, ks, cs⟩ := w
   exact lc_match _ _ hw.2.2 hv'
  ·exact lc_none
 split
 ·unfold doM
  split
  ·rename_i a b h1 h2
   have hlt := hand_lt (wayM t0 p) (walkM t0 p).ref p.length
   refine lc_fill hok hs 0 _ _ (by omega) (lc_put _ (fun v hv => ?_) _ _ (lc_kid (lc_walk hs) h2))
   simp at hv
   rcases hv with rfl | rfl
   ·exact lc_kid hw h1
   ·refine ⟨by simp [locM, clashM, offM], ⟨lc_fill hok hs _ _ _ (Nat.le_refl _) lc_var, trivial⟩, trivial⟩
  ·exact lc_none
 ·exact here _ hlet
theorem check_lc {t : Tm} {d m : Int} (h : checkM t d m = 0) : lcT t := by
 unfold checkM at h
 split at h
 ·cases h
 ·exact aerr_lc h
/-- A right term: what holds of it. -/
structure Rt (t : Tm) : Prop where
 gd : gdT 0 t
 lc : lcT t
theorem check_rt {t : Tm} (h : checkM t 0 0 = 0) (hr : rgT t) : Rt t := ⟨check_gd h hr, check_lc h⟩
theorem Rt.check {t : Tm} (h : Rt t) (d m : Int) : checkM t d m = if (longT 300 60 1 0 t).1 then 11 else 0 := by
 unfold checkM
 rw [gd_aerr h.gd h.lc]
/-- A step makes a right term of a right one, or one that is too long. -/
theorem does_rt {ts : List KT} (hb : ∀ x ∈ ts, Rt x.2) {t : Tm} (h : Rt t) (hN : tsize t < 2^28) {k : Int} (hk : kindM ts t (placeM t) = k) (hk7 : k ≤ 7) : Rt (doesM ts t (placeM t) k) :=
 ⟨does_gd h.gd (place_ok (gd_sh h.gd)) (freeP_place t) hN (fun x hx => (hb x hx).gd) hk hk7, does_lc (fun x hx => (hb x hx).lc) h.lc (place_ok (gd_sh h.gd)) k⟩
end Go.Proofs.YtkcgkignhpepkaaGreatDoor

/- The reference: a step, and some steps. -/
namespace Go.Proofs.YtkcgkignhpepkaaGreatDoor
open Go Hs
variable {G : List (Nat × TypeId × Pu)}
abbrev stepV (m : Nat) (x : Tm × Int) : PV := .tup [.pu (tmc m x.1), iv .i64 x.2]
theorem stepV_low {P : Program} {m n : Nat} (h : n ≤ m) (x : Tm × Int) : VImp P (stepV m x) (stepV n x) := VImps.tup (.cons (tmc_low h _).imp (.cons (VImp.refl _) .nil)) (notTup rfl)
def rstepM (ts : List KT) (t : Tm) : Tm × Int :=
 if valM t = true then (noneM, 6) else if 7 < kindM ts t (placeM t) then (noneM, 10) else if (longT 300 60 1 0 (nextM ts t)).1 = true then (noneM, 11) else (nextM ts t, 0)
theorem rnext_cases (ts : List KT) (t : Tm) : ∃ kd p, rnextM ts t = (kd, p) ∧ (kd = 0 → valM t = true) ∧ (kd ≠ 0 → valM t = false ∧ kindM ts t (placeM t) = kd ∧ p = placeM t) := by
 have hk := (kind_inv (show kindW ts (wayM t (placeM t)) (placeM t).length (walkM t (placeM t)) = kindM ts t (placeM t) from rfl)).2.2.2.2.2.2.2.1
 unfold rnextM
 cases hv : valM t
 ·exact ⟨kindM ts t (placeM t), placeM t, rfl, fun h => by omega, fun _ => ⟨rfl, rfl, rfl⟩⟩
 ·exact ⟨0, [], rfl, fun _ => rfl, fun h => absurd rfl h⟩
set_option maxHeartbeats 1000000 in
theorem rstep_c (a b : Pu) (ts : List KT) (hts : ts.length < 2^40) (hb : ∀ x ∈ ts, gdT 0 x.2 ∧ tsize x.2 ≤ 300) (t : Tm) (hg : gdT 0 t) (hN : tsize t ≤ 3000) :
  FCall Tryz.prog G 47 [.pu (wdP a b ts), .pu (tmc 0 t)] (stepV 0 (rstepM ts t)) := by
 have hok := place_ok (gd_sh hg)
 have hnx := rnext_c (G := G) a b ts hts t hg (by omega)
 obtain ⟨kd, p, hkp, h0v, h1v⟩ := rnext_cases ts t
 rw [hkp] at hnx
 refine FCall.of_tri tbl 34 Tryz.func47 rfl rfl rfl fun w0 M ρ0 D0 => ?_
 refine yR ?_;refine s_box SS 2 ?_;refine s_box SS 3 ?_;refine s_alloc SS 4 ?_;refine yB ?_;refine e_seqN [2, 3, 4] ?_;refine yR ?_;refine yL ?_;refine yL ?_;refine s_val (v_callD (fun _ => hnx)) ?_;refine yM ?_;refine yX ?_;refine yX ?_;refine yA ?_;refine yA ?_;refine e_seq ?_;refine yR ?_;refine yM ?_;refine yI ?_;refine e_seq ?_;refine tQ ?_;refine Tri.cond rfl (fun h0 => ?_) (fun h0 => ?_)
 ·skip
  have hfin : rstepM ts t = (noneM, 6) := by rw [rstepM, if_pos (h0v (by simpa using h0))]
  refine yR ?_;refine yT ?_;refine yS ?_;refine yB ?_;refine e_seq ?_;refine tQ ?_;exact Tri.ret ⟨.inr rfl, ret2 rfl resV_cell ((by rw [hfin]; exact ToPu.imp (by unfold noneM; repeat constructor))) resV_tmp ((by rw [hfin]; exact VImp.refl _))⟩
 ·skip
  obtain ⟨hv, hk, hp⟩ := h1v (by simpa using h0)
  subst hp;refine Tri.skip ?_;refine yR ?_;refine yM ?_;refine yI ?_;refine e_seq ?_;refine tQ ?_;refine Tri.cond rfl (fun h1 => ?_) (fun h1 => ?_)
  ·skip
   have hfin : rstepM ts t = (noneM, 10) := by rw [rstepM, if_neg (by rw [hv]; decide), hk, if_pos (by simpa using h1)]
   refine yR ?_;refine yT ?_;refine yS ?_;refine yB ?_;refine e_seq ?_;refine tQ ?_;exact Tri.ret ⟨.inr rfl, ret2 rfl resV_cell ((by rw [hfin]; exact ToPu.imp (by unfold noneM; repeat constructor))) resV_tmp ((by rw [hfin]; exact VImp.refl _))⟩
  ·skip
   have hk7 : kd ≤ 7 := by simpa using h1
   have haf := rafter_c (G := G) a b ts hts t (placeM t) hg hok (freeP_place t) hN (place_zero _ t (Nat.le_refl _)) (fun x hx => ⟨(hb x hx).1, by have := (hb x hx).2; omega⟩) kd hk hk7
   have hyz := does_sz (fun x hx => (hb x hx).2) hok hN kd
   have hne : doesM ts t (placeM t) kd = nextM ts t := by unfold nextM; rw [hk]
   rw [hne] at haf hyz
   have hri := rright_c (G := G) (nextM ts t) (by omega)
   have hst : rstepM ts t = if (longT 300 60 1 0 (nextM ts t)).1 = true then (noneM, 11) else (nextM ts t, 0) := by rw [rstepM, if_neg (by rw [hv]; decide), hk, if_neg (by omega)]
   generalize (longT 300 60 1 0 (nextM ts t)).1 = lb at hri hst
   refine Tri.skip ?_;refine yR ?_;refine yL ?_;refine yL ?_;refine yM ?_;refine yM ?_;refine s_val (v_callD (fun _ => haf)) ?_;refine s_alloc SS 8 ?_;refine yS ?_;refine e_seqN [8] ?_;refine yR ?_;refine yL ?_;refine s_val (v_callD (fun _ => hri)) ?_;refine yA ?_;refine e_seq ?_;refine yR ?_;refine yM ?_;refine yI ?_;refine e_seq ?_;refine tQ ?_;refine Tri.cond rfl (fun h2 => ?_) (fun h2 => ?_)
   ·skip
    have hlb : lb = true := by cases lb <;> simp at h2 ⊢
    subst hlb
    rw [if_pos rfl] at hst
    refine yR ?_;refine yT ?_;refine yM ?_;refine yS ?_;refine yA ?_;refine e_seq ?_;refine tQ ?_;exact Tri.ret ⟨.inr rfl, ret2 rfl resV_cell ((by rw [hst]; exact ToPu.imp (by unfold noneM; repeat constructor))) resV_tmp ((by rw [hst]; exact VImp.refl _))⟩
   ·skip
    have hlb : lb = false := by cases lb <;> simp at h2 ⊢
    subst hlb
    rw [if_neg (by decide)] at hst
    refine Tri.skip ?_;refine yR ?_;refine yL ?_;refine yS ?_;refine yB ?_;refine e_seq ?_;refine tQ ?_;exact Tri.ret ⟨.inr rfl, ret2 rfl resV_cell ((by rw [hst]; exact VImp.refl _)) resV_tmp ((by rw [hst]; exact VImp.refl _))⟩
def traceL (ts : List KT) : Nat → Tm → Option (List Tm)
 | 0, _ => some []
 | n + 1, t => if valM t = true ∨ 7 < kindM ts t (placeM t) then some [] else if (longT 300 60 1 0 (nextM ts t)).1 = true then none else (traceL ts n (nextM ts t)).map (nextM ts t :: ·)
theorem traceL_end {ts : List KT} {n : Nat} {t : Tm} (h : valM t = true ∨ 7 < kindM ts t (placeM t)) : traceL ts n t = some [] := by
 cases n with
 | zero => rfl
 | succ n => rw [traceL, if_pos h]
def trFin (l : List Tm) : Option (List Tm) → List Tm × Int
 | some r => (l ++ r, 0)
 | none => ([], 11)
theorem trFin_cons (l : List Tm) (x : Tm) (o : Option (List Tm)) : trFin l (o.map (x :: ·)) = trFin (l ++ [x]) o := by cases o <;> simp [trFin]
def rtraceM (ts : List KT) (t : Tm) (most : Int) : List Tm × Int := if most < 0 ∨ 40 < most then ([], 3) else trFin [t] (traceL ts most.toNat t)
abbrev traceV (m : Nat) (x : List Tm × Int) : PV := .tup [.pu (.sl m 32 (tmsc m x.1)), iv .i64 x.2]
theorem traceV_low {P : Program} {m n : Nat} (h : n ≤ m) (x : List Tm × Int) : VImp P (traceV m x) (traceV n x) := VImps.tup (.cons (Low.imp (.sl h (tmsc_low h _))) (.cons (VImp.refl _) .nil)) (notTup rfl)
set_option maxHeartbeats 1000000 in
theorem rtrace_c (a b : Pu) (ts : List KT) (hts : ts.length < 2^40) (hb : ∀ x ∈ ts, gdT 0 x.2 ∧ tsize x.2 ≤ 300) (t0 : Tm) (hg : gdT 0 t0) (hN : tsize t0 ≤ 3000) (most : Int) :
  FCall Tryz.prog G 48 [.pu (wdP a b ts), .pu (tmc 0 t0), iv .i64 most] (traceV 0 (rtraceM ts t0 most)) := by
 refine FCall.of_tri tbl 51 Tryz.func48 rfl rfl rfl fun w0 M ρ0 D0 => ?_
 refine yR ?_;refine s_box SS 3 ?_;refine s_box SS 4 ?_;refine yB ?_;refine yB ?_;refine e_seqN [3, 4] ?_;refine yR ?_;refine yM ?_;refine yI ?_;refine yM ?_;refine xM ?_;refine xI ?_;refine yO ?_;refine e_seq ?_;refine tQ ?_;refine Tri.cond rfl (fun h0 => ?_) (fun h0 => ?_)
 ·skip
  have hfin : rtraceM ts t0 most = ([], 3) := by rw [rtraceM, if_pos (by simpa using h0)]
  refine yR ?_;refine yB ?_;refine yB ?_;refine e_seq ?_;refine tQ ?_;exact Tri.ret ⟨.inr rfl, ret2 rfl resV_tmp ((by rw [hfin]; exact ToPu.imp (by repeat constructor))) resV_tmp ((by rw [hfin]; exact VImp.refl _))⟩
 ·skip
  have hm0 : ¬ (most < 0 ∨ 40 < most) := by simp at h0; omega
  obtain ⟨mm, hmm⟩ : ∃ mm : Nat, most = mm := ⟨most.toNat, by omega⟩
  subst hmm
  have hst : rtraceM ts t0 mm = trFin [t0] (traceL ts mm t0) := by rw [rtraceM, if_neg hm0, Int.toNat_natCast]
  refine Tri.skip ?_;refine yR ?_;refine yL ?_;refine yZ ?_;refine yA ?_;refine e_seq ?_;refine tQ ?_;refine Tri.block (Tri.loopW (σ := {q : List Tm × Tm // 1 ≤ q.1.length ∧ q.1.length ≤ mm + 1 ∧ gdT 0 q.2 ∧ tsize q.2 ≤ 3000 ∧ rtraceM ts t0 mm = trFin q.1 (traceL ts (mm + 1 - q.1.length) q.2)}) (fun i => ⟨[(2, iv .i64 mm), (3, .ptr 3 [] 26), (4, .ptr 4 [] 32), (8, .ow 0 32 (tmsc 0 i.1.1))], [(3, .var 26 (.pu (wdP a b ts))), (4, .var 32 (.pu (tmc 0 i.1.2)))]⟩) (fun i => mm + 1 - i.1.1.length) ⟨([t0], t0), by simp, by simp, hg, hN, by simpa using hst⟩ ?_ ?_ (fun i => ?_))
  ·repeat (first | exact .nil | refine .cons rfl (by first | exact .refl | (focus ((repeat constructor); done)) | (exact .xsOw)) ?_)
  ·repeat (first | exact .nil | refine .cons rfl (by first | exact .refl | (focus ((repeat constructor); done)) | (exact .xsOw)) ?_)
  obtain ⟨⟨out, t⟩, ho1, ho2, hgt, hzt, hinv⟩ := i
  dsimp only at ho1 ho2 hgt hzt hinv ⊢
  refine yR ?_;refine yM ?_;refine yC ?_;refine yM ?_;refine yI ?_;refine e_seq ?_;refine tQ ?_;refine Tri.cond rfl (fun h1 => ?_) (fun h1 => ?_)
  ·skip
   have hle : out.length ≤ mm := by rw [tms_length] at h1; simpa using h1
   obtain ⟨nn, hnn⟩ : ∃ nn, mm + 1 - out.length = nn + 1 := ⟨mm - out.length, by omega⟩
   rw [hnn] at hinv
   have hok := place_ok (gd_sh hgt)
   have hnx := rnext_c (G := G) a b ts hts t hgt (by omega)
   obtain ⟨kd, p, hkp, h0v, h1v⟩ := rnext_cases ts t
   rw [hkp] at hnx
   refine Tri.skip ?_;refine tQ ?_;refine Tri.block ?_;refine yR ?_;refine yL ?_;refine yL ?_;refine s_val (v_callD (fun _ => hnx)) ?_;refine yM ?_;refine yX ?_;refine yX ?_;refine yA ?_;refine yA ?_;refine e_seq ?_;refine yR ?_;refine yM ?_;refine yI ?_;refine yM ?_;refine xM ?_;refine xI ?_;refine yO ?_;refine e_seq ?_;refine tQ ?_;refine Tri.cond rfl (fun h2 => ?_) (fun h2 => ?_)
   ·skip
    have hfin : rtraceM ts t0 mm = (out, 0) := by
     have : valM t = true ∨ 7 < kindM ts t (placeM t) := by
      by_cases h00 : kd = 0
      ·exact .inl (h0v h00)
      ·exact .inr (by rw [(h1v h00).2.1]; simp at h2; omega)
     rw [hinv, traceL_end this]; simp [trFin]
    refine Tri.exit ?_;refine yR ?_;refine yM ?_;refine yA ?_;refine yB ?_;refine e_seq ?_;refine tQ ?_;exact Tri.ret ⟨.inr rfl, ret2 rfl resV_tmp ((by rw [hfin]; exact ToPu.imp (by repeat constructor))) resV_tmp ((by rw [hfin]; exact VImp.refl _))⟩
   ·skip
    have h2' : kd ≠ 0 ∧ kd ≤ 7 := by simp at h2; omega
    obtain ⟨hv, hk, hp⟩ := h1v h2'.1
    subst hp
    have haf := rafter_c (G := G) a b ts hts t (placeM t) hgt hok (freeP_place t) hzt (place_zero _ t (Nat.le_refl _)) (fun x hx => ⟨(hb x hx).1, by have := (hb x hx).2; omega⟩) kd hk h2'.2
    have hyz := does_sz (fun x hx => (hb x hx).2) hok hzt kd
    have hyg := does_gd hgt hok (freeP_place t) (by omega) (fun x hx => (hb x hx).1) hk h2'.2
    have hne : doesM ts t (placeM t) kd = nextM ts t := by unfold nextM; rw [hk]
    rw [hne] at haf hyz hyg
    have hri := rright_c (G := G) (nextM ts t) (by omega)
    have hlz := long_size (mn := 300) (md := 60) (t := nextM ts t) (d := 1) (c := 0) (by omega)
    have hst2 : traceL ts (nn + 1) t = if (longT 300 60 1 0 (nextM ts t)).1 = true then none else (traceL ts nn (nextM ts t)).map (nextM ts t :: ·) := by rw [traceL, if_neg (by rw [hv, hk]; simp; omega)]
    generalize (longT 300 60 1 0 (nextM ts t)).1 = lb at hri hst2 hlz
    refine Tri.skip ?_;refine yR ?_;refine yL ?_;refine yL ?_;refine yM ?_;refine yM ?_;refine s_val (v_callD (fun _ => haf)) ?_;refine yS ?_;refine e_seq ?_;refine yR ?_;refine yL ?_;refine s_val (v_callD (fun _ => hri)) ?_;refine yA ?_;refine e_seq ?_;refine yR ?_;refine yM ?_;refine yI ?_;refine e_seq ?_;refine tQ ?_;refine Tri.cond rfl (fun h3 => ?_) (fun h3 => ?_)
    ·skip
     have hlb : lb = true := by cases lb <;> simp at h3 ⊢
     subst hlb
     have hfin : rtraceM ts t0 mm = ([], 11) := by rw [hinv, hst2, if_pos rfl]; rfl
     refine yR ?_;refine yM ?_;refine yB ?_;refine yA ?_;refine e_seq ?_;refine tQ ?_;exact Tri.ret ⟨.inr rfl, ret2 rfl resV_tmp ((by rw [hfin]; exact ToPu.imp (by repeat constructor))) resV_tmp ((by rw [hfin]; exact VImp.refl _))⟩
    ·skip
     have hlb : lb = false := by cases lb <;> simp at h3 ⊢
     subst hlb
     have hz9 := hlz rfl
     have hnext : 1 ≤ (out ++ [nextM ts t]).length ∧ (out ++ [nextM ts t]).length ≤ mm + 1 ∧ gdT 0 (nextM ts t) ∧ tsize (nextM ts t) ≤ 3000 ∧ rtraceM ts t0 mm = trFin (out ++ [nextM ts t]) (traceL ts (mm + 1 - (out ++ [nextM ts t]).length) (nextM ts t)) := by
      refine ⟨by simp, by simp; omega, hyg, by omega, ?_⟩
      rw [hinv, hst2, if_neg (by decide), trFin_cons, show mm + 1 - (out ++ [nextM ts t]).length = nn by simp; omega]
     refine Tri.skip ?_;refine yR ?_;refine yM ?_;refine yL ?_;refine yZ ?_;refine s_app1 8 ?_ ?_
     ·simp [tms_length]; omega
     refine yA ?_;refine e_seq ?_
     refine ⟨⟨(out ++ [nextM ts t], nextM ts t), hnext⟩, by simp; omega, le_of ?_ ?_⟩
     ·repeat (first | exact SubE.nil | refine SubE.cons rfl (by first | rfl | (rw [wrap64 (by omega) (by omega)]; rfl) | (rw [tms_eq, tms_eq, List.map_append]; rfl)) ?_)
     ·repeat (first | exact SubH.nil | refine SubH.cons rfl (by first | rfl | (rw [wrap64 (by omega) (by omega)]; rfl) | (rw [tms_eq, tms_eq, List.map_append]; rfl)) ?_)
  ·skip
   have hle : out.length = mm + 1 := by rw [tms_length] at h1; simp at h1; omega
   have hfin : rtraceM ts t0 mm = (out, 0) := by rw [hinv, hle, Nat.sub_self]; simp [traceL, trFin]
   refine Tri.exit ?_;refine yR ?_;refine yM ?_;refine yA ?_;refine yB ?_;refine e_seq ?_;refine tQ ?_;exact Tri.ret ⟨.inr rfl, ret2 rfl resV_tmp ((by rw [hfin]; exact ToPu.imp (by repeat constructor))) resV_tmp ((by rw [hfin]; exact VImp.refl _))⟩
end Go.Proofs.YtkcgkignhpepkaaGreatDoor

