/- Part 6 of the proof: lemmas on walks and the walks of the functions, in their order. -/
import Derived.Test.YtkcgkignhpepkaaGreatDoorW5
import Derived.OpenShut
import Derived.Deep.DeepHandedRow
set_option linter.unusedSimpArgs false
set_option linter.unusedVariables false
set_option linter.unusedSectionVars false
set_option linter.constructorNameAsVariable false
/- Types that are the same; types that are drawn. -/
namespace Go.Proofs.YtkcgkignhpepkaaGreatDoor
open Go Hs
section
variable {G : List (Nat × TypeId × Pu)}
theorem eqfTy_c (f : FuncId) (he : entersB Tryz.prog f = true) (φ : Ty → Ty → Bool) (l m : List Ty) (hl : l.length < 2^40) (hm : m.length < 2^40) (h : ∀ i (h1 : i < l.length) (h2 : i < m.length), FCall Tryz.prog G f [.pu (tyc l[i]), .pu (tyc m[i])] (bv (φ l[i] m[i]))) :
  FCall Tryz.prog G 223 [.pu (.sl 0 58 (tysc l)), .pu (.sl 0 58 (tysc m)), fV f] (bv (eqLM φ l m)) := by
 refine FCall.of_tri tbl 32 Tryz.func223 rfl rfl rfl fun w0 M ρ0 D0 => ?_
 refine Y20 ?_;refine Y37 ?_;refine yM ?_;refine yC ?_;refine Y45 ?_;refine Tri.cond rfl (fun h0 => ?_) (fun h0 => ?_)
 ·skip
  have hf : eqLM φ l m = false := eqLM_len (by rw [tys_length, tys_length] at h0; simp at h0; omega)
  refine Y8 ?_;exact Tri.ret ⟨.inr rfl, ret1 rfl resV_tmp (bv_imp hf.symm)⟩
 ·skip
  have hlm : l.length = m.length := by rw [tys_length, tys_length] at h0; simp at h0; omega
  refine Tri.skip ?_;refine Y62 ?_;refine Tri.block (Tri.loopW (σ := {i : Nat // eqLM φ (l.take i) (m.take i) = true}) (fun i => ⟨[(1, .pu (.sl 0 58 (tysc m))), (2, fV f), (15, .pu (.sl 0 58 (tysc l))), (16, iv .i64 (tysc l).length), (17, iv .i64 i.1)], []⟩) (fun i => l.length - i.1) ⟨0, by simp [eqLM]⟩ ?_ ?_ (fun i => ?_))
  ·exact zW
  ·exact zW
  refine Y31 ?_;refine Tri.cond rfl (fun h1 => ?_) (fun h1 => ?_)
  ·skip
   have hi : i.1 < l.length := by rw [tys_length] at h1; simpa using h1
   have hi2 : i.1 < m.length := by omega
   have htk := eqLM_take (φ := φ) hi hi2
   rw [i.2, Bool.true_and] at htk
   refine Tri.skip ?_;refine tQ ?_;refine Tri.block ?_;refine Y1 ?_;refine s_val (v_index SS (h0 := by omega) (hp := tys_get hi)) ?_;refine yL ?_;refine s_alloc SS 8 ?_;refine yA ?_;refine yS ?_;refine e_seqN [8] ?_;refine Y29 ?_;refine s_val (v_index SS (h0 := by omega) (hp := tys_get hi2)) ?_;refine yL ?_;refine s_alloc SS 9 ?_;refine yS ?_;refine e_seqN [9] ?_;refine Y32 ?_;refine yL ?_;refine s_val (v_callO (fun _ => h i.1 hi hi2) (he := he)) ?_;refine yQ ?_;refine Y0 ?_;refine Tri.cond rfl (fun h2 => ?_) (fun h2 => ?_)
   ·skip
    have hf : eqLM φ l m = false := eqLM_stop (i := i.1 + 1) (by rw [htk]; simpa using h2)
    refine Y8 ?_;exact Tri.ret ⟨.inr rfl, ret1 rfl resV_tmp (bv_imp hf.symm)⟩
   ·skip
    have hnext : eqLM φ (l.take (i.1 + 1)) (m.take (i.1 + 1)) = true := by rw [htk]; simpa using h2
    refine Tri.skip ?_;refine Y27 ?_
    refine ⟨⟨i.1 + 1, hnext⟩, by show l.length - (i.1 + 1) < l.length - i.1; omega, le_of ?_ ?_⟩
    ·exact zE
    ·exact zH
  ·skip
   have hf : eqLM φ l m = true := by
    have := i.2
    rwa [List.take_of_length_le (by rw [tys_length] at h1; simp at h1; omega), List.take_of_length_le (by rw [tys_length] at h1; simp at h1; omega)] at this
   refine Tri.exit ?_;refine Y8 ?_;exact Tri.ret ⟨.inr rfl, ret1 rfl resV_tmp (bv_imp hf.symm)⟩
theorem eqS0_c : FCall Tryz.prog G 243 [.pu (.sl 0 28 []), .pu (.sl 0 28 [])] (bv true) := by
 refine FCall.of_tri tbl 26 Tryz.func243 rfl rfl rfl fun w0 M ρ0 D0 => ?_
 refine Y20 ?_;refine Y37 ?_;refine yM ?_;refine yC ?_;refine Y45 ?_;refine Tri.cond rfl (fun h0 => ?_) (fun h0 => ?_)
 ·exfalso
  simp at h0
 ·skip
  refine Tri.skip ?_;refine Y62 ?_;refine Tri.block (Tri.loopW (σ := Unit) (fun i => ⟨[(0, .pu (.sl 0 28 [])), (12, iv .i64 0), (13, iv .i64 0)], []⟩) (fun i => 0) () ?_ ?_ (fun i => ?_))
  ·exact zW
  ·exact zW
  refine Y31 ?_;refine Tri.cond rfl (fun h1 => ?_) (fun h1 => ?_)
  ·exfalso
   simp at h1
  ·skip
   refine Tri.exit ?_;refine Y8 ?_;exact Tri.ret ⟨.inr rfl, ret1 rfl resV_tmp (VImp.refl _)⟩
theorem eqBool (x y : Bool) : binV Tryz.prog .eql 4 (bv x) (bv y) = some (bv (x == y)) := by
 have hu : Tryz.prog.underlying 4 = some .bool := by kernel_rfl
 simp [binV, bv, hu]
instance : TyV Tryz.prog 56 (.pu rowZ) := inferInstanceAs (TyV Tryz.prog 56 (.pu (.agg _ _)))
theorem sameRow_c : FCall Tryz.prog G 224 [.pu rowZ, .pu rowZ] (bv true) := by
 refine FCall.of_tri tbl 24 Tryz.func224 rfl rfl rfl fun w0 M ρ0 D0 => ?_
 refine yR ?_;refine s_box SS 2 ?_;refine s_box SS 3 ?_;refine yB ?_;refine e_seqN [2, 3] ?_;refine Y23 ?_;refine Y9 ?_;refine s_val (v_callD (fun _ => eqS0_c)) ?_;refine Y44 ?_;refine s_gg zG (v_bin SS (h := eqBool _ _)) ?_;refine yN ?_;refine Y44 ?_;refine Y19 ?_;refine Y2 ?_;exact Tri.ret ⟨.inr rfl, ret1 rfl resV_tmp (VImp.refl _)⟩
mutual
def wfY : Ty → Prop
 | .mk _ _ r ks => r.length = 32 ∧ wfYs ks
def wfYs : List Ty → Prop
 | [] => True
 | t :: ts => wfY t ∧ wfYs ts
end
mutual
theorem ty_wf {D : Nat → Nat → Prop} {w : World} : ∀ {t : Ty} {x : List Value}, PR Tryz.prog D w (tyc t) x → wfY t
 | .mk k n r ks, x, h => by
  obtain ⟨_, h⟩ := PR_agg h
  obtain ⟨_, _, _, h⟩ := PRs_cons h
  obtain ⟨_, _, _, h⟩ := PRs_cons h
  obtain ⟨⟨_, h1⟩, _, _, h⟩ := PRs_cons h
  obtain ⟨⟨_, h2⟩, _⟩ := PRs_cons h
  obtain ⟨_, _, h2⟩ := PR_sl h2
  exact ⟨ref_len h1, tys_wf h2⟩
theorem tys_wf {D : Nat → Nat → Prop} {w : World} : ∀ {ks : List Ty} {cs : List (Nat × TypeId)} {x : List Value}, PRs Tryz.prog D w cs (tysc ks) x → wfYs ks
 | [], _, _, _ => trivial
 | p :: ps, _, _, h => by
  obtain ⟨⟨_, h1⟩, _, _, h2⟩ := PRs_cons h
  exact ⟨ty_wf h1, tys_wf h2⟩
end
mutual
def ysize : Ty → Nat
 | .mk _ _ _ ks => 1 + ysizeL ks
def ysizeL : List Ty → Nat
 | [] => 0
 | p :: ps => ysize p + ysizeL ps
end
theorem ysize_pos (p : Ty) : 1 ≤ ysize p := by cases p; simp [ysize]
theorem ysizeL_get : ∀ {ks : List Ty} {i : Nat} (h : i < ks.length), ysize ks[i] ≤ ysizeL ks
 | p :: ps, 0, _ => by simp [ysizeL]
 | p :: ps, i + 1, h => by
  have := ysizeL_get (ks := ps) (i := i) (by simpa using h)
  simp [ysizeL]; omega
theorem length_ysizeL : ∀ (ks : List Ty), ks.length ≤ ysizeL ks
 | [] => by simp [ysizeL]
 | p :: ps => by
  have := length_ysizeL ps
  have := ysize_pos p
  simp [ysizeL]; omega
theorem sameTys_eq : ∀ l m : List Ty, sameTys l m = eqLM sameTy l m
 | [], [] => by simp [sameTys, eqLM]
 | [], _ :: _ => by simp [sameTys, eqLM]
 | _ :: _, [] => by simp [sameTys, eqLM]
 | a :: l, b :: m => by simp only [sameTys, eqLM, sameTys_eq l m]
theorem sameYs_c (l m : List Ty) (hl : l.length < 2^40) (hm : m.length < 2^40) (h : ∀ i (h1 : i < l.length) (h2 : i < m.length), FCall Tryz.prog G 171 [.pu (tyc l[i]), .pu (tyc m[i])] (bv (sameTy l[i] m[i]))) :
  FCall Tryz.prog G 168 [.pu (.sl 0 58 (tysc l)), .pu (.sl 0 58 (tysc m))] (bv (sameTys l m)) := by
 refine FCall.of_tri tbl 8 Tryz.func168 rfl rfl rfl fun w0 M ρ0 D0 => ?_
 refine Y20 ?_;refine Y29 ?_;refine s_val (v_callD (fun _ => eqfTy_c 171 (by kernel_rfl) sameTy l m hl hm h)) ?_;refine Y2 ?_;exact Tri.ret ⟨.inr rfl, ret1 rfl resV_tmp (bv_imp (by rw [sameTys_eq]))⟩
theorem sameY_c : ∀ (N : Nat) (p q : Ty), ysize p ≤ N → N < 2^40 → ysize q < 2^40 → FCall Tryz.prog G 171 [.pu (tyc p), .pu (tyc q)] (bv (sameTy p q)) := by
 intro N
 induction N with
 | zero => intro p q h; cases p; simp [ysize] at h
 | succ N ih =>
 intro p q hp hN hq
 obtain ⟨k, n, r, ks⟩ := p
 obtain ⟨k', n', r', ks'⟩ := q
 simp only [ysize] at hp hq
 have hlen := length_ysizeL ks
 have hlen' := length_ysizeL ks'
 refine FCall.of_tri tbl 38 Tryz.func171 rfl rfl rfl fun w0 M ρ0 D0 => ?_
 refine Tri.fact (i := 0) rfl (fun D w x h => ty_wf h) (fun hr => ?_);refine Tri.fact (i := 1) rfl (fun D w x h => ty_wf h) (fun hr' => ?_)
 simp only [wfY] at hr hr'
 refine yR ?_;refine s_box SS 2 ?_;refine s_box SS 3 ?_;refine yB ?_;refine e_seqN [2, 3] ?_;refine Y16 ?_;refine Y3 ?_;refine yI ?_;refine Y44 ?_;refine Y19 ?_;refine Y44 ?_;refine s_gg zG (v_bin SS (h := bin_eqS (hr.1.trans hr'.1.symm))) ?_;refine yN ?_;refine Y44 ?_;refine s_gg zG (v_callD (fun _ => sameYs_c ks ks' (by omega) (by omega) (fun i h1 h2 => ih _ _ (by have := ysizeL_get h1; omega) (by omega) (by have := ysizeL_get h2; omega)))) ?_;refine yN ?_;refine Y44 ?_;refine s_gg zG (v_callD (fun _ => sameRow_c)) ?_;refine yN ?_;refine Y2 ?_;exact Tri.ret ⟨.inr rfl, ret1 rfl resV_tmp (bv_imp (by simp only [sameTy, Bool.and_true]))⟩
theorem F_c (a b : Ty) : FCall Tryz.prog G 28 [.pu (tyc a), .pu (tyc b)] (.pu (tyc (.mk 3 0 Z32 [a, b]))) := by
 refine FCall.of_tri tbl 9 Tryz.func28 rfl rfl rfl fun w0 M ρ0 D0 => ?_
 refine yR ?_;refine s_box SS 2 ?_;refine s_box SS 3 ?_;refine s_alloc SS 4 ?_;refine e_seqN [2, 3, 4] ?_;refine Y36 ?_;refine yZ ?_;refine Y41 ?_;exact Tri.ret ⟨.inr rfl, ret1 rfl resV_cell (ToPu.imp (by repeat constructor))⟩
theorem none_c : FCall Tryz.prog G 227 [] (.pu (tyc lostY)) := by
 refine FCall.of_tri tbl 2 Tryz.func227 rfl rfl rfl fun w0 M ρ0 D0 => ?_
 refine yR ?_;refine s_alloc SS 0 ?_;refine e_seqN [0] ?_;refine yR ?_;refine s_val (v_callD (fun _ => V_c 99)) ?_;refine Y10 ?_;exact Tri.ret ⟨.inr rfl, ret1 rfl resV_cell (ToPu.imp (by repeat constructor))⟩
end
variable (bs : List Int) [hz : Bz bs]
theorem plain0_c (s : Sd) {l k : Int} [h : Bd s l k] (hk : k ≤ 100000 := by decide) : HCall Tryz.prog gL 39 [.ptr 950 [] 171, iv .i64 0] [] (stO bs s) (.pu (tyc (plain0M bs s).1.ty)) (stO bs (plain0M bs s).2) [] := by
 by_cases hc : (lessM bs 6 s).1 < 4
 ·have e : plain0M bs s = (.b, (lessM bs 6 s).2) := by simp [plain0M, hc]
  rw [e]
  refine HCall.of_triD tbl 60 [950] Tryz.func39 rfl rfl rfl fun w0 M ρ0 D0 => ?_
  refine yR ?_;refine s_alloc SS 4 ?_;refine e_seqN [4] ?_;refine Y1 ?_;refine s_call (less_c bs 6 s (by omega)) ?_;refine Y2 ?_;refine Tri.block ?_;refine Y51 ?_;refine Tri.cond rfl (fun h0 => ?_) (fun h0 => ?_)
  ·exfalso
   simp at h0
  ·skip
   refine Y51 ?_;refine Tri.cond rfl (fun h1 => ?_) (fun h1 => ?_)
   ·exfalso
    simp at h1
   ·skip
    refine Y51 ?_;refine Tri.cond rfl (fun h2 => ?_) (fun h2 => ?_)
    ·exfalso
     simp at h2
    ·skip
     refine Y38 ?_;refine Tri.cond rfl (fun h3 => ?_) (fun h3 => ?_)
     ·skip
      refine Y40 ?_;refine s_val (v_callD (fun _ => D_c (sumR 1) [])) ?_;refine Y10 ?_;exact Tri.ret ⟨.inr rfl, ret1 rfl resV_cell (VImp.refl _), zO⟩
     ·exfalso
      have := of_decide_eq_false h3
      omega
 ·have e : plain0M bs s = (.n, (lessM bs 6 s).2) := by simp [plain0M, hc]
  rw [e]
  refine HCall.of_triD tbl 60 [950] Tryz.func39 rfl rfl rfl fun w0 M ρ0 D0 => ?_
  refine yR ?_;refine s_alloc SS 4 ?_;refine e_seqN [4] ?_;refine Y1 ?_;refine s_call (less_c bs 6 s (by omega)) ?_;refine Y2 ?_;refine Tri.block ?_;refine Y51 ?_;refine Tri.cond rfl (fun h0 => ?_) (fun h0 => ?_)
  ·exfalso
   simp at h0
  ·skip
   refine Y51 ?_;refine Tri.cond rfl (fun h1 => ?_) (fun h1 => ?_)
   ·exfalso
    simp at h1
   ·skip
    refine Y51 ?_;refine Tri.cond rfl (fun h2 => ?_) (fun h2 => ?_)
    ·exfalso
     simp at h2
    ·skip
     refine Y38 ?_;refine Tri.cond rfl (fun h3 => ?_) (fun h3 => ?_)
     ·exfalso
      have := of_decide_eq_true h3
      omega
     ·skip
      refine Tri.skip ?_;refine yR ?_;refine s_val (v_callD (fun _ => N_c)) ?_;refine Y10 ?_;exact Tri.ret ⟨.inr rfl, ret1 rfl resV_cell (VImp.refl _), zO⟩
theorem plain1_c (s : Sd) {l k : Int} [h : Bd s l k] (hk : k ≤ 10000 := by decide) : HCall Tryz.prog gL 39 [.ptr 950 [] 171, iv .i64 1] [] (stO bs s) (.pu (tyc (plain1M bs s).1.ty)) (stO bs (plain1M bs s).2) [] := by
 have hb := less_b bs s (n := 6) (by decide)
 refine HCall.of_triD tbl 60 [950] Tryz.func39 rfl rfl rfl fun w0 M ρ0 D0 => ?_
 refine yR ?_;refine s_alloc SS 4 ?_;refine e_seqN [4] ?_;refine Y1 ?_;refine s_call (less_c bs 6 s (by omega)) ?_;refine Y2 ?_;refine Tri.block ?_;refine Y51 ?_;refine Tri.cond rfl (fun h0 => ?_) (fun h0 => ?_)
 ·skip
  have e : plain1M bs s = (.li (plain0M bs (lessM bs 6 s).2).1, (plain0M bs (lessM bs 6 s).2).2) := by simp at h0; simp [plain1M, h0]
  rw [e];refine Y40 ?_;refine Y21 ?_;refine yI ?_;refine s_call (plain0_c bs (lessM bs 6 s).2 (by omega)) ?_;refine yZ ?_;refine s_val (v_callD (fun _ => D_c (sumR 2) [_])) ?_;refine Y25 ?_;exact Tri.ret ⟨.inr rfl, ret1 rfl resV_cell (VImp.refl _), zO⟩
 ·skip
  refine Y51 ?_;refine Tri.cond rfl (fun h1 => ?_) (fun h1 => ?_)
  ·skip
   have e : plain1M bs s = (.op (plain0M bs (lessM bs 6 s).2).1, (plain0M bs (lessM bs 6 s).2).2) := by simp at h1; simp [plain1M, h1]
   rw [e];refine Y40 ?_;refine Y21 ?_;refine yI ?_;refine s_call (plain0_c bs (lessM bs 6 s).2 (by omega)) ?_;refine yZ ?_;refine s_val (v_callD (fun _ => D_c (sumR 4) [_])) ?_;refine Y25 ?_;exact Tri.ret ⟨.inr rfl, ret1 rfl resV_cell (VImp.refl _), zO⟩
  ·skip
   refine Y51 ?_;refine Tri.cond rfl (fun h2 => ?_) (fun h2 => ?_)
   ·skip
    have e : plain1M bs s = (.pa (plain0M bs (lessM bs 6 s).2).1 (plain0M bs (plain0M bs (lessM bs 6 s).2).2).1, (plain0M bs (plain0M bs (lessM bs 6 s).2).2).2) := by simp at h2; simp [plain1M, h2]
    rw [e];refine Y40 ?_;refine Y21 ?_;refine yI ?_;refine s_call (plain0_c bs (lessM bs 6 s).2 (by omega)) ?_;refine Y21 ?_;refine yI ?_;refine s_call (plain0_c bs (plain0M bs (lessM bs 6 s).2).2 (by omega)) ?_;refine yZ ?_;refine s_val (v_callD (fun _ => D_c (sumR 3) [_, _])) ?_;refine Y25 ?_;exact Tri.ret ⟨.inr rfl, ret1 rfl resV_cell (VImp.refl _), zO⟩
   ·skip
    refine Y38 ?_;refine Tri.cond rfl (fun h3 => ?_) (fun h3 => ?_)
    ·skip
     have e : plain1M bs s = (.ba .b, (lessM bs 6 s).2) := by simp at h0 h1 h2 h3; simp [plain1M, h0, h1, h2, h3]
     rw [e];refine Y40 ?_;refine s_val (v_callD (fun _ => D_c (sumR 1) [])) ?_;refine Y10 ?_;exact Tri.ret ⟨.inr rfl, ret1 rfl resV_cell (VImp.refl _), zO⟩
    ·skip
     have e : plain1M bs s = (.ba .n, (lessM bs 6 s).2) := by simp at h0 h1 h2 h3; simp [plain1M, h0, h1, h2]; omega
     rw [e];refine Tri.skip ?_;refine yR ?_;refine s_val (v_callD (fun _ => N_c)) ?_;refine Y10 ?_;exact Tri.ret ⟨.inr rfl, ret1 rfl resV_cell (VImp.refl _), zO⟩
end Go.Proofs.YtkcgkignhpepkaaGreatDoor

/- The maker's variables, and small terms. -/
namespace Go.Proofs.YtkcgkignhpepkaaGreatDoor
open Go Hs
abbrev mkO (bs : List Int) (s : Sd) (l : Int) : List (Nat × Ob) := [(951, .var 174 (.agg 174 [.ptr 950 [] 171, iv .i64 l])), (950, .var 171 (.pu (stP bs s)))]
structure Vk (v : List Ty) (n : Nat) : Prop where
 len : v.length + 4 * n ≤ 1000
 sm : ∀ u ∈ v, ysize u ≤ 3
theorem Vk.app {v w : List Ty} {n : Nat} (h : Vk v (n + 1)) (hw : w.length ≤ 4) (hs : ∀ u ∈ w, ysize u ≤ 3) : Vk (v ++ w) n := ⟨by have := h.len; simp; omega, fun u hu => by
 rcases List.mem_append.1 hu with hu | hu
 ·exact h.sm u hu
 ·exact hs u hu⟩
theorem Vk.less {v : List Ty} {n : Nat} (h : Vk v (n + 1)) : Vk v n := ⟨by have := h.len; omega, h.sm⟩
theorem bt_small (x : BT) : ysize x.ty ≤ 3 := by cases x <;> simp [BT.ty, natY, ysize, ysizeL]
theorem bt_one (x : BT) : ysize x.ty = 1 := by cases x <;> simp [BT.ty, natY, ysize, ysizeL]
theorem tt_small (t : TT) : ysize t.ty ≤ 3 := by
 cases t with
 | ba x => exact bt_small x
 | li x => simp [TT.ty, ysize, ysizeL, bt_one x]
 | op x => simp [TT.ty, ysize, ysizeL, bt_one x]
 | pa x y => simp [TT.ty, ysize, ysizeL, bt_one x, bt_one y]
 | fn x => simp [TT.ty, natY, ysize, ysizeL, bt_one x]
theorem tms_app (a b : List Tm) {lo : Nat} : tmsc lo (a ++ b) = tmsc lo a ++ tmsc lo b := by simp [tms_eq]
theorem kn_yes {v : List Ty} {t : Ty} {i : Nat} (hi : i < v.length) (h : sameTy v[i] t = true) : knM v t (i + 1) = knM v t i ++ [vaM ((v.length : Int) - 1 - i)] := by
 simp [knM, List.range_succ, List.filterMap_append, hi, h]
theorem kn_no {v : List Ty} {t : Ty} {i : Nat} (hi : i < v.length) (h : sameTy v[i] t = false) : knM v t (i + 1) = knM v t i := by
 simp [knM, List.range_succ, List.filterMap_append, hi, h]
theorem kn_len (v : List Ty) (t : Ty) (i : Nat) : (knM v t i).length ≤ i := by
 unfold knM
 exact Nat.le_trans (List.length_filterMap_le _ _) (by simp)
variable (bs : List Int) [hz : Bz bs]
theorem some_c (s : Sd) (l : Int) {k : Int} [h : Bd s l k] (hk : k ≤ 1000 := by decide) : HCall Tryz.prog gL 174 [.ptr 951 [] 174] [] (mkO bs s l) (.pu (tyc (someM bs s).1.ty)) (mkO bs (someM bs s).2 l) [] := by
 refine HCall.of_triD tbl 20 [950, 951] Tryz.func174 rfl rfl rfl fun w0 M ρ0 D0 => ?_
 refine yR ?_;refine s_alloc SS 2 ?_;refine e_seqN [2] ?_;refine Y47 ?_;refine s_call (seldom_c bs 5 s (by omega)) ?_;refine Y0 ?_;refine Tri.cond rfl (fun h0 => ?_) (fun h0 => ?_)
 ·skip
  have e : someM bs s = (.fn (plain0M bs (seldomM bs 5 s).2).1, (plain0M bs (seldomM bs 5 s).2).2) := by simp [someM, h0]
  rw [e];refine yR ?_;refine s_val (v_callD (fun _ => N_c)) ?_;refine yM ?_;refine Y13 ?_;refine s_call (plain0_c bs (seldomM bs 5 s).2 (by omega)) ?_;refine s_val (v_callD (fun _ => F_c natY _)) ?_;refine Y25 ?_;exact Tri.ret ⟨.inr rfl, ret1 rfl resV_cell (VImp.refl _), zO⟩
 ·skip
  have e : someM bs s = plain1M bs (seldomM bs 5 s).2 := by simp [someM, h0]
  rw [e];refine Tri.skip ?_;refine Y47 ?_;refine s_call (plain1_c bs (seldomM bs 5 s).2 (by omega)) ?_;refine Y10 ?_;exact Tri.ret ⟨.inr rfl, ret1 rfl resV_cell (VImp.refl _), zO⟩
theorem held_c (v : List Ty) (hvl : v.length ≤ 1020) (hvs : ∀ u ∈ v, ysize u ≤ 3) (t : Ty) (ht : ysize t ≤ 3) (s : Sd) (l : Int) {k : Int} [h : Bd s l k] (hk : k ≤ 1000 := by decide) : HCall Tryz.prog gL 173 [.ptr 951 [] 174, .pu (tyc t), .pu (.sl 0 58 (tysc v))] [] (mkO bs s l) (.tup [.pu (tmc 0 (heldM bs v t s).1.1), bv (heldM bs v t s).1.2]) (mkO bs (heldM bs v t s).2 l) [] := by
 have hyl := tys_length v
 refine HCall.of_triD tbl 45 [950, 951] Tryz.func173 rfl rfl rfl fun w0 M ρ0 D0 => ?_
 refine yR ?_;refine s_box SS 4 ?_;refine s_alloc SS 6 ?_;refine yB ?_;refine e_seqN [4, 6] ?_;refine Y20 ?_;refine Y62 ?_;refine Tri.block (Tri.loopW (σ := {i : Nat // i ≤ v.length}) (fun i => ⟨[(0, .ptr 951 [] 174), (2, .pu (.sl 0 58 (tysc v))), (4, .ptr 4 [] 58), (6, .ptr 6 [] 32), (8, .ow 0 32 (tmsc 0 (knM v t i.1))), (11, .pu (.sl 0 58 (tysc v))), (12, iv .i64 (tysc v).length), (13, iv .i64 i.1)], [(4, .var 58 (.pu (tyc t))), (6, .var 32 (.pu (tmc 0 zeroM)))] ++ mkO bs s l⟩) (fun i => v.length - i.1) ⟨0, Nat.zero_le _⟩ ?_ ?_ (fun i => ?_))
 ·exact zW
 ·exact zW
 refine Y31 ?_;refine Tri.cond rfl (fun h0 => ?_) (fun h0 => ?_)
 ·skip
  have hi : i.1 < v.length := by have := of_decide_eq_true h0; omega
  refine Tri.skip ?_;refine tQ ?_;refine Tri.block ?_;refine Y1 ?_;refine s_val (v_index SS (h0 := by omega) (hp := tys_get hi)) ?_;refine yL ?_;refine s_alloc SS 10 ?_;refine yA ?_;refine yS ?_;refine e_seqN [10] ?_;refine Y36 ?_;refine s_val (v_callD (fun _ => sameY_c _ v[i.1] t (Nat.le_refl _) (by have := hvs _ (List.getElem_mem hi); omega) (by omega))) ?_;refine Y0 ?_;refine Tri.cond rfl (fun h1 => ?_) (fun h1 => ?_)
  ·skip
   have hn := kn_yes hi h1
   have hkl := kn_len v t i.1
   have e1 : IntKind.i64.wrap (IntKind.i64.wrap ((tysc v).length - 1) - i.1) = (v.length : Int) - 1 - i.1 := by rw [wrap64 (n := ((tysc v).length : Int) - 1) (by omega) (by omega), hyl, wrap64 (by omega) (by omega)]
   refine Y29 ?_;refine yC ?_;refine yI ?_;refine yM ?_;refine yI ?_;rw [e1];refine s_val (v_callD (fun _ => Va_c _)) ?_;refine yZ ?_;refine s_app1 8 ?_ ?_
   ·rw [tms_length]; simp; omega
   refine Y14 ?_;refine Y27 ?_
   refine ⟨⟨i.1 + 1, hi⟩, by show v.length - (i.1 + 1) < v.length - i.1; omega, le_of ?_ ?_⟩
   ·repeat (first | exact SubE.nil | refine SubE.cons rfl (by first | rfl | (rw [wrap64 (by omega) (by omega)]; rfl) | (first | (rw [hn, tms_app]; rfl) | (rw [hn]))) ?_)
   ·repeat (first | exact SubH.nil | refine SubH.cons rfl (by first | rfl | (rw [wrap64 (by omega) (by omega)]; rfl) | (first | (rw [hn, tms_app]; rfl) | (rw [hn]))) ?_)
  ·skip
   have hn := kn_no hi (by simpa using h1)
   refine Tri.skip ?_;refine Y27 ?_
   refine ⟨⟨i.1 + 1, hi⟩, by show v.length - (i.1 + 1) < v.length - i.1; omega, le_of ?_ ?_⟩
   ·repeat (first | exact SubE.nil | refine SubE.cons rfl (by first | rfl | (rw [wrap64 (by omega) (by omega)]; rfl) | (first | (rw [hn, tms_app]; rfl) | (rw [hn]))) ?_)
   ·repeat (first | exact SubH.nil | refine SubH.cons rfl (by first | rfl | (rw [wrap64 (by omega) (by omega)]; rfl) | (first | (rw [hn, tms_app]; rfl) | (rw [hn]))) ?_)
 ·skip
  have hi : i.1 = v.length := by have := of_decide_eq_false h0; have := i.2; omega
  rw [hi]
  have hkl := kn_len v t v.length
  have hkt := tms_length (lo := 0) (knM v t v.length)
  refine Tri.exit ?_;refine Y37 ?_;refine Y45 ?_;refine Tri.cond rfl (fun h2 => ?_) (fun h2 => ?_)
  ·skip
   have e : heldM bs v t s = ((zeroM, false), s) := by
    have h9 : ((tmsc 0 (knM v t v.length)).length : Int) = 0 := eq_of_beq h2
    unfold heldM
    rw [if_pos (by omega)]
   rw [e];refine Y58 ?_;refine Y59 ?_;exact Tri.ret ⟨.inr rfl, ret2 rfl resV_cell (ToPu.imp (by repeat constructor)) resV_tmp (VImp.refl _), zO⟩
  ·skip
   have hne : (knM v t v.length).length ≠ 0 := by intro e; rw [hkt, e] at h2; simp at h2
   have e : heldM bs v t s = (((knM v t v.length).getD (lessM bs (knM v t v.length).length s).1.toNat zeroM, true), (lessM bs (knM v t v.length).length s).2) := by unfold heldM; rw [if_neg hne]
   rw [e]
   have hb := less_b bs s (n := ((knM v t v.length).length : Int)) (by omega)
   have hp : (tmsc 0 (knM v t v.length))[(lessM bs (knM v t v.length).length s).1.toNat]? = some (tmc 0 ((knM v t v.length).getD (lessM bs (knM v t v.length).length s).1.toNat zeroM)) := by
    have hlt : (lessM bs (knM v t v.length).length s).1.toNat < (knM v t v.length).length := by omega
    rw [tms_get hlt, List.getD_eq_getElem?_getD, List.getElem?_eq_getElem hlt]
    rfl
   refine Tri.skip ?_;refine Y29 ?_;refine Y13 ?_;refine yM ?_;refine yC ?_;rw [hkt];refine s_call (less_c bs _ s (by omega)) ?_;refine s_val (v_index SS (h0 := hb.1) (hp := hp)) ?_;refine yL ?_;refine Y59 ?_;exact Tri.ret ⟨.inr rfl, ret2 rfl resV_cell (VImp.refl _) resV_tmp (VImp.refl _), zO⟩
theorem tt_fn {t : TT} {k n : Int} {r : List Int} {ks : List Ty} (h : t.ty = .mk k n r ks) (hk : k = 3) : ∃ x, t = .fn x ∧ n = 0 ∧ r = Z32 ∧ ks = [natY, x.ty] := by
 subst hk
 rcases t with (_ | _) | x | x | ⟨x, y⟩ | x <;> simp [TT.ty, BT.ty, natY] at h
 obtain ⟨rfl, rfl, rfl⟩ := h
 exact ⟨x, rfl, rfl, rfl, rfl⟩
theorem tt_nat {t : TT} {k n : Int} {r : List Int} {ks : List Ty} (h : t.ty = .mk k n r ks) (hk : k = 2) : t = .ba .n := by
 subst hk
 rcases t with (_ | _) | x | x | ⟨x, y⟩ | x <;> simp [TT.ty, BT.ty, natY] at h ⊢
theorem tt_bool {t : TT} {k n : Int} {r : List Int} {ks : List Ty} (h : t.ty = .mk k n r ks) (hk : r = sumR 1) : t = .ba .b := by
 subst hk
 rcases t with (_ | _) | x | x | ⟨x, y⟩ | x <;> simp [TT.ty, BT.ty, natY, sumR, Z32, List.replicate] at h ⊢
theorem tt_list {t : TT} {k n : Int} {r : List Int} {ks : List Ty} (h : t.ty = .mk k n r ks) (hk : r = sumR 2) : ∃ x, t = .li x ∧ k = 4 ∧ n = 0 ∧ ks = [x.ty] := by
 subst hk
 rcases t with (_ | _) | x | x | ⟨x, y⟩ | x <;> simp [TT.ty, BT.ty, natY, sumR, Z32, List.replicate] at h
 obtain ⟨rfl, rfl, rfl⟩ := h
 exact ⟨x, rfl, rfl, rfl, rfl⟩
theorem tt_pair {t : TT} {k n : Int} {r : List Int} {ks : List Ty} (h : t.ty = .mk k n r ks) (hk : r = sumR 3) : ∃ x y, t = .pa x y ∧ k = 4 ∧ n = 0 ∧ ks = [x.ty, y.ty] := by
 subst hk
 rcases t with (_ | _) | x | x | ⟨x, y⟩ | x <;> simp [TT.ty, BT.ty, natY, sumR, Z32, List.replicate] at h
 obtain ⟨rfl, rfl, rfl⟩ := h
 exact ⟨x, y, rfl, rfl, rfl, rfl⟩
theorem tt_opt {t : TT} {k n : Int} {r : List Int} {ks : List Ty} (h : t.ty = .mk k n r ks) (hk : r = sumR 4) : ∃ x, t = .op x ∧ k = 4 ∧ n = 0 ∧ ks = [x.ty] := by
 subst hk
 rcases t with (_ | _) | x | x | ⟨x, y⟩ | x <;> simp [TT.ty, BT.ty, natY, sumR, Z32, List.replicate] at h
 obtain ⟨rfl, rfl, rfl⟩ := h
 exact ⟨x, rfl, rfl, rfl, rfl⟩
theorem tt_rest {t : TT} {k n : Int} {r : List Int} {ks : List Ty} (h : t.ty = .mk k n r ks) (h3 : ¬ k = 3) (h2 : ¬ k = 2) (hb : ¬ r = sumR 1) (hp : ¬ r = sumR 3) : (∃ x, t = .li x ∧ r = sumR 2) ∨ ∃ x, t = .op x ∧ r = sumR 4 := by
 rcases t with (_ | _) | x | x | ⟨x, y⟩ | x <;> simp [TT.ty, BT.ty, natY] at h
 ·exact absurd h.1.symm h2
 ·exact absurd h.2.2.1.symm hb
 ·exact .inl ⟨x, rfl, h.2.2.1.symm⟩
 ·exact .inr ⟨x, rfl, h.2.2.1.symm⟩
 ·exact absurd h.2.2.1.symm hp
 ·exact absurd h.1.symm h3
theorem tt_ref {t : TT} {k n : Int} {r : List Int} {ks : List Ty} (h : t.ty = .mk k n r ks) : r.length = 32 := by
 rcases t with (_ | _) | x | x | ⟨x, y⟩ | x <;> simp [TT.ty, BT.ty, natY] at h
 all_goals (obtain ⟨_, _, rfl, _⟩ := h; rfl)
theorem keep_seldom {v : List Ty} {t : Ty} {base : Sd → Tm × Sd} {s : Sd} (h : ¬ ((heldM bs v t s).1.2 = true ∧ (seldomM bs 3 (heldM bs v t s).2).1 = false)) :
  keepM bs v t base s = base (if (heldM bs v t s).1.2 = true then (seldomM bs 3 (heldM bs v t s).2).2 else (heldM bs v t s).2) := by
 unfold keepM
 split
 ·rename_i h1
  rw [if_neg (fun h2 => h ⟨h1, h2⟩)]
 ·rfl
set_option maxHeartbeats 1000000 in
theorem leafN_c (t : TT) (v : List Ty) (hvl : v.length ≤ 1020) (hvs : ∀ u ∈ v, ysize u ≤ 3) (s : Sd) (l : Int) {k : Int} [h : Bd s l k] (hk : k ≤ 900) (hk2 : k ≤ 800 ∨ ∃ x, t = .ba x)
  (ih : (∀ x, t ≠ .ba x) → ∀ (x : BT) (w : List Ty), w.length ≤ v.length + 1 → (∀ u ∈ w, ysize u ≤ 3) → ∀ (s : Sd) (k : Int) [Bd s l k], k ≤ 850 → HCall Tryz.prog gL 172 [.ptr 951 [] 174, .pu (tyc x.ty), .pu (.sl 0 58 (tysc w))] [] (mkO bs s l) (.pu (tmc 0 (leaf0M bs x w s).1)) (mkO bs (leaf0M bs x w s).2 l) []) :
  HCall Tryz.prog gL 172 [.ptr 951 [] 174, .pu (tyc t.ty), .pu (.sl 0 58 (tysc v))] [] (mkO bs s l) (.pu (tmc 0 (leafM bs t v s).1)) (mkO bs (leafM bs t v s).2 l) [] := by
 obtain ⟨k', n', r', ks', hty⟩ : ∃ k n r ks, t.ty = .mk k n r ks := by rcases t.ty with ⟨a, b, c, d⟩; exact ⟨a, b, c, d, rfl⟩
 have hrl := tt_ref hty
 have hs1 : (sumR 1).length = 32 := by decide
 have hs3 : (sumR 3).length = 32 := by decide
 have hh := held_c bs v hvl hvs t.ty (tt_small t) s l (by omega)
 have hb1 : Bd (heldM bs v t.ty s).2 l (k + 1) := inferInstance
 have hb2 : Bd (if (heldM bs v t.ty s).1.2 = true then (seldomM bs 3 (heldM bs v t.ty s).2).2 else (heldM bs v t.ty s).2) l (k + 2) := by
  split
  ·exact Bd.mono (inferInstance : Bd (seldomM bs 3 (heldM bs v t.ty s).2).2 l (k + 1 + 1)) (by omega)
  ·exact Bd.mono hb1 (by omega)
 have hks := keep_seldom bs (v := v) (t := t.ty) (base := base1M bs v t) (s := s)
 have hk1 : (heldM bs v t.ty s).1.2 = true → (seldomM bs 3 (heldM bs v t.ty s).2).1 = false → leafM bs t v s = ((heldM bs v t.ty s).1.1, (seldomM bs 3 (heldM bs v t.ty s).2).2) := fun h1 h2 => by
  unfold leafM keepM
  rw [if_pos h1, if_pos h2]
 rw [hty] at hh ⊢
 refine HCall.of_triD tbl 91 [950, 951] Tryz.func172 rfl rfl rfl fun w0 M ρ0 D0 => ?_
 have hle := hks
 rw [hty] at hb1 hb2 hks hk1
 generalize hg : heldM bs v (.mk k' n' r' ks') s = q at hh hb1 hb2 hks hk1
 obtain ⟨⟨x, b⟩, s1⟩ := q
 simp only at hh hb1 hb2 hks hk1
 refine yR ?_;refine s_box SS 4 ?_;refine s_alloc SS 6 ?_;refine e_seqN [4, 6] ?_;refine Y32 ?_;refine yM ?_;refine s_call (hh) ?_;refine Y46 ?_;refine s_alloc SS 7 ?_;refine Y48 ?_;refine e_seqN [7] ?_;refine Y1 ?_;refine Y22 ?_;refine s_gg zG (v_nilCheck SS) ?_;refine Y7 ?_;refine s_callG zG (f := 115) (args := [.ptr 950 [] 171, iv .i64 3]) (HR := []) (H := stO bs s1) (H' := stO bs (if b = true then (seldomM bs 3 s1).2 else s1)) (v := bv (seldomM bs 3 s1).1) (fun e => ?_) (fun e => ?_) ?_
 ·have e' : b = true := by simpa using e
  rw [if_pos e'];exact seldom_c bs 3 s1 (by omega)
 ·have e' : ¬ b = true := by simpa using e
  exact .cons rfl (by simp [e']) .nil
 refine xQ ?_;refine yN ?_;refine Y0 ?_;refine Tri.cond rfl (fun h0 => ?_) (fun h0 => ?_)
 ·skip
  have hb3 : b = true ∧ (seldomM bs 3 s1).1 = false := by simpa using h0
  have e := hk1 hb3.1 hb3.2
  rw [e, if_pos hb3.1];refine Y57 ?_;exact Tri.ret ⟨.inr rfl, ret1 rfl resV_cell (VImp.refl _), zO⟩
 ·skip
  have hb3 : ¬ (b = true ∧ (seldomM bs 3 s1).1 = false) := by intro hh; simp [hh.1, hh.2] at h0
  have hleaf : leafM bs t v s = base1M bs v t (if b = true then (seldomM bs 3 s1).2 else s1) := by unfold leafM; rw [hty]; exact hks hb3
  clear hks hk1 hh
  generalize (if b = true then (seldomM bs 3 s1).2 else s1) = s2 at hb2 hleaf ⊢
  refine Tri.skip ?_;refine tQ ?_;refine Tri.block ?_;refine Y34 ?_;refine Y2 ?_;refine Tri.cond rfl (fun h1 => ?_) (fun h1 => ?_)
  ·skip
   obtain ⟨x, rfl, rfl, rfl, rfl⟩ := tt_fn hty (by simpa using h1)
   have hk3 : k ≤ 800 := hk2.resolve_right fun ⟨y, hy⟩ => by cases hy
   rw [hleaf];refine Y1 ?_;refine Y9 ?_;refine s_val (v_index SS (h0 := by omega) (hp := (rfl : (tysc [natY, x.ty])[1]? = some _))) ?_;refine yL ?_;refine yM ?_;refine Y9 ?_;refine s_val (v_index SS (h0 := by omega) (hp := (rfl : (tysc [natY, x.ty])[0]? = some _))) ?_;refine Y56 ?_;refine s_val (v_callD (fun _ => bound_c v [natY] (by omega) (by simp))) ?_;refine s_call (ih (fun y hy => by cases hy) x (v ++ [natY]) (by simp) (fun u hu => by simp at hu; rcases hu with hu | rfl; exact hvs u hu; simp [natY, ysize, ysizeL]) s2 _ (by omega)) ?_;refine s_val (v_callD (fun _ => La_c _)) ?_;refine Y25 ?_;exact Tri.ret ⟨.inr rfl, ret1 rfl resV_cell (VImp.refl _), zO⟩
  ·skip
   refine Y34 ?_;refine Y2 ?_;refine Tri.cond rfl (fun h2 => ?_) (fun h2 => ?_)
   ·skip
    obtain rfl := tt_nat hty (by simpa using h2)
    rw [hleaf];refine Y47 ?_;refine s_call (less_c bs 4 s2 (by omega)) ?_;refine s_val (v_callD (fun _ => Nu_c _)) ?_;refine Y10 ?_;exact Tri.ret ⟨.inr rfl, ret1 rfl resV_cell (VImp.refl _), zO⟩
   ·skip
    refine Y16 ?_;refine yG ?_;refine s_val (v_bin SS (h := bin_eqS (hrl.trans hs1.symm))) ?_;refine Y2 ?_;refine Tri.cond rfl (fun h3 => ?_) (fun h3 => ?_)
    ·skip
     obtain rfl := tt_bool hty (by simpa using h3)
     rw [hleaf];refine Y40 ?_;refine yM ?_;refine Y13 ?_;refine s_call (less_c bs 2 s2 (by omega)) ?_;refine s_val (v_callD (fun _ => Co_c (sumR 1) _ [])) ?_;refine Y25 ?_;exact Tri.ret ⟨.inr rfl, ret1 rfl resV_cell (VImp.refl _), zO⟩
    ·skip
     refine Y16 ?_;refine yG ?_;refine s_val (v_bin SS (h := bin_eqS (hrl.trans hs3.symm))) ?_;refine Y2 ?_;refine Tri.cond rfl (fun h4 => ?_) (fun h4 => ?_)
     ·skip
      obtain ⟨x, y, rfl, rfl, rfl, rfl⟩ := tt_pair hty (by simpa using h4)
      have hk3 : k ≤ 800 := hk2.resolve_right fun ⟨y, hy⟩ => by cases hy
      rw [hleaf];refine Y40 ?_;refine yM ?_;refine Y9 ?_;refine s_val (v_index SS (h0 := by omega) (hp := (rfl : (tysc [x.ty, y.ty])[0]? = some _))) ?_;refine yL ?_;refine yM ?_;refine s_call (ih (fun y hy => by cases hy) x v (by omega) hvs s2 _ (by omega)) ?_;refine yM ?_;refine Y9 ?_;refine s_val (v_index SS (h0 := by omega) (hp := (rfl : (tysc [x.ty, y.ty])[1]? = some _))) ?_;refine yL ?_;refine yM ?_;refine s_call (ih (fun y hy => by cases hy) y v (by omega) hvs (leaf0M bs x v s2).2 _ (by omega)) ?_;refine yZ ?_;refine s_val (v_callD (fun _ => Co_c (sumR 3) 0 [_, _])) ?_;refine Y25 ?_;exact Tri.ret ⟨.inr rfl, ret1 rfl resV_cell (VImp.refl _), zO⟩
     ·skip
      have hr := tt_rest hty (by simpa using h1) (by simpa using h2) (by simpa using h3) (by simpa using h4)
      have hl2 : base1M bs v t s2 = (coM r' 0 [], s2) := by rcases hr with ⟨x, rfl, rfl⟩ | ⟨x, rfl, rfl⟩ <;> rfl
      rw [hleaf, hl2];refine Tri.skip ?_;refine Y16 ?_;refine s_val (v_callD (fun _ => Co_c r' 0 [])) ?_;refine Y10 ?_;exact Tri.ret ⟨.inr rfl, ret1 rfl resV_cell (VImp.refl _), zO⟩
theorem leaf0_c (x : BT) (v : List Ty) (hvl : v.length ≤ 1020) (hvs : ∀ u ∈ v, ysize u ≤ 3) (s : Sd) (l : Int) {k : Int} [h : Bd s l k] (hk : k ≤ 900) :
  HCall Tryz.prog gL 172 [.ptr 951 [] 174, .pu (tyc x.ty), .pu (.sl 0 58 (tysc v))] [] (mkO bs s l) (.pu (tmc 0 (leaf0M bs x v s).1)) (mkO bs (leaf0M bs x v s).2 l) [] :=
 leafN_c bs (.ba x) v hvl hvs s l hk (.inr ⟨x, rfl⟩) fun hn => absurd rfl (hn x)
theorem leaf_c (t : TT) (v : List Ty) (hvl : v.length ≤ 1010) (hvs : ∀ u ∈ v, ysize u ≤ 3) (s : Sd) (l : Int) {k : Int} [h : Bd s l k] (hk : k ≤ 800) :
  HCall Tryz.prog gL 172 [.ptr 951 [] 174, .pu (tyc t.ty), .pu (.sl 0 58 (tysc v))] [] (mkO bs s l) (.pu (tmc 0 (leafM bs t v s).1)) (mkO bs (leafM bs t v s).2 l) [] :=
 leafN_c bs t v (by omega) hvs s l (by omega) (.inl hk) fun _ x w hw hs s k _ hk => leaf0_c bs x w (by omega) hs s l (k := k) (by omega)
end Go.Proofs.YtkcgkignhpepkaaGreatDoor

/- The maker's terms of each type. -/
namespace Go.Proofs.YtkcgkignhpepkaaGreatDoor
open Go Hs
class Lt (l : Int) (n : Nat) : Prop where
 h : l ≤ n
class Ml (m : Mk) : Prop where
 h : ∀ t v a s l, (m.f t v a s l).2.2 ≤ l
instance (m : Mk) (n : Nat) (t : TT) (v : List Ty) (a : List AB) (s : Sd) (l : Int) [hm : Ml m] [h : Lt l n] : Lt (m.f t v a s l).2.2 n := ⟨Int.le_trans (hm.h t v a s l) h.h⟩
def sumsP (a : List AB) : List Pu := a.map fun x => refP x.ref
theorem sums_len (a : List AB) : (sumsP a).length = a.length := by simp [sumsP]
theorem ab_len (x : AB) : x.ref.length = 32 := by cases x <;> rfl
def TermC (bs : List Int) (m : Mk) (n : Nat) : Prop := ∀ (t : TT) (v : List Ty) (a : List AB) (s : Sd) (l k : Int) [Bd s l k] [Lt l n], Vk v n → a.length + n ≤ 40 → k ≤ 0 →
 HCall Tryz.prog gL 111 [.ptr 951 [] 174, .pu (tyc t.ty), .pu (.sl 0 58 (tysc v)), .pu (.sl 0 28 (sumsP a))] [] (mkO bs s l) (.pu (tmc 0 (m.f t v a s l).1)) (mkO bs (m.f t v a s l).2.1 (m.f t v a s l).2.2) []
variable (bs : List Int) [hz : Bz bs] (m : Mk) [hm : Mc m] [hml : Ml m] (n : Nat)
abbrev oneR (v : List Ty) (a : List AB) : List (Nat × Ob) := [(4, .var 172 (.ptr 951 [] 174)), (6, .var 53 (.pu (.sl 0 58 (tysc v)))), (7, .var 54 (.pu (.sl 0 28 (sumsP a))))]
theorem one_c (H : TermC bs m n) (v : List Ty) (a : List AB) (hv : Vk v n) (ha : a.length + n ≤ 40) (t : TT) (s : Sd) (l : Int) {k : Int} [h : Bd s l k] [hl : Lt l n] (hk : k ≤ 0) : HCall Tryz.prog gL 228 [.pu (tyc t.ty), .ptr 4 [] 172, .ptr 6 [] 53, .ptr 7 [] 54] (oneR v a) (mkO bs s l) (.pu (tmc 0 (m.f t v a s l).1)) (mkO bs (m.f t v a s l).2.1 (m.f t v a s l).2.2) [] := by
 refine HCall.of_triD tbl 11 [950, 951, 4, 6, 7] Tryz.func228 rfl rfl rfl fun w0 M ρ0 D0 => ?_
 refine yR ?_;refine s_box SS 31 ?_;refine s_alloc SS 32 ?_;refine e_seqN [31, 32] ?_;refine Y36 ?_;refine yK ?_;refine yK ?_;refine s_call (H t v a s l k hv ha hk) ?_;refine Y10 ?_;exact Tri.ret ⟨.inr rfl, ret1 rfl resV_cell (VImp.refl _), zO⟩
set_option maxHeartbeats 2000000 in
theorem made_c (H : TermC bs m n) (t : TT) (v : List Ty) (a : List AB) (hv : Vk v (n + 1)) (ha : a.length + n ≤ 40) (s : Sd) (l : Int) {k : Int} [h : Bd s l k] [hl : Lt l n] (hk : k ≤ -300) :
  HCall Tryz.prog gL 179 [.ptr 951 [] 174, .pu (tyc t.ty), .pu (.sl 0 58 (tysc v)), .pu (.sl 0 28 (sumsP a))] [] (mkO bs s l) (.pu (tmc 0 (madeM bs m t v a s l).1)) (mkO bs (madeM bs m t v a s l).2.1 (madeM bs m t v a s l).2.2) [] := by
 obtain ⟨k', n', r', ks', hty⟩ : ∃ k n r ks, t.ty = .mk k n r ks := by rcases t.ty with ⟨a, b, c, d⟩; exact ⟨a, b, c, d, rfl⟩
 have hrl := tt_ref hty
 have hvl := hv.len
 have hv0 : Vk v n := hv.less
 have hs1 : (sumR 1).length = 32 := by decide
 have hs2' : (sumR 2).length = 32 := by decide
 have hs3' : (sumR 3).length = 32 := by decide
 have hs4 : (sumR 4).length = 32 := by decide
 have hb6 := less_b bs (lessM bs 9 s).2 (n := 6) (by decide)
 rw [hty]
 refine HCall.of_triD tbl 187 [950, 951] Tryz.func179 rfl rfl rfl fun w0 M ρ0 D0 => ?_
 refine yR ?_;refine s_box SS 4 ?_;refine s_box SS 5 ?_;refine s_box SS 6 ?_;refine s_box SS 7 ?_;refine s_alloc SS 8 ?_;refine e_seqN [4, 5, 6, 7, 8] ?_;refine yR ?_;refine s_val (v_mkFnD SS) ?_;refine Y2 ?_;refine Tri.block ?_;refine Y34 ?_;refine Y2 ?_;refine Tri.cond rfl (fun h0 => ?_) (fun h0 => ?_)
 ·skip
  obtain ⟨x, rfl, rfl, rfl, rfl⟩ := tt_fn hty (by simpa using h0)
  rw [show madeM bs m (.fn x) v a s l = (laM (m.f (.ba x) (v ++ [natY]) [] s l).1, (m.f (.ba x) (v ++ [natY]) [] s l).2) from rfl];refine Y4 ?_;refine Y9 ?_;refine s_val (v_index SS (h0 := by omega) (hp := (rfl : (tysc [natY, x.ty])[1]? = some _))) ?_;refine yL ?_;refine yK ?_;refine Y9 ?_;refine s_val (v_index SS (h0 := by omega) (hp := (rfl : (tysc [natY, x.ty])[0]? = some _))) ?_;refine Y56 ?_;refine s_val (v_callD (fun _ => bound_c v [natY] (by omega) (by simp))) ?_;refine s_call (H (.ba x) (v ++ [natY]) [] s l k (hv.app (by simp) (by simp [natY, ysize, ysizeL])) (by simp; omega) (by omega)) ?_;refine s_val (v_callD (fun _ => La_c _)) ?_;refine Y25 ?_;exact Tri.ret ⟨.inr rfl, ret1 rfl resV_cell (VImp.refl _), zO⟩
 ·skip
  refine Y34 ?_;refine Y2 ?_;refine Tri.cond rfl (fun h1 => ?_) (fun h1 => ?_)
  ·skip
   obtain rfl := tt_nat hty (by simpa using h1)
   refine Y28 ?_;refine s_call (less_c bs 9 s (by omega)) ?_;refine Y0 ?_;refine Tri.block ?_;refine Y12 ?_;refine Tri.cond rfl (fun h2 => ?_) (fun h2 => ?_)
   ·skip
    have e : madeM bs m (.ba .n) v a s l = (apM (deM (sumR 21)) (m.f (.ba .n) v a (lessM bs 9 s).2 l).1, (m.f (.ba .n) v a (lessM bs 9 s).2 l).2) := by simp only [madeM, if_pos (eq_of_beq h2)]
    rw [e];refine Y40 ?_;refine s_val (v_callD (fun _ => De_c (sumR 21))) ?_;refine yM ?_;refine s_val (v_callD (fun _ => N_c)) ?_;refine s_call (one_c bs m n H v a hv0 ha (.ba .n) (lessM bs 9 s).2 l (by omega)) ?_;refine s_val (v_callD (fun _ => Ap_c _ _)) ?_;refine Y10 ?_;exact Tri.ret ⟨.inr rfl, ret1 rfl resV_cell (VImp.refl _), zO⟩
   ·skip
    have g0 : ¬ (lessM bs 9 s).1 = 0 := by simpa using h2
    refine Y12 ?_;refine Tri.cond rfl (fun h3 => ?_) (fun h3 => ?_)
    ·skip
     have e : madeM bs m (.ba .n) v a s l = (apM (apM (deM (sumR 22)) (m.f (.ba .n) v a (lessM bs 9 s).2 l).1) (m.f (.ba .n) v a (m.f (.ba .n) v a (lessM bs 9 s).2 l).2.1 (m.f (.ba .n) v a (lessM bs 9 s).2 l).2.2).1, (m.f (.ba .n) v a (m.f (.ba .n) v a (lessM bs 9 s).2 l).2.1 (m.f (.ba .n) v a (lessM bs 9 s).2 l).2.2).2) := by simp only [madeM, if_neg g0, if_pos (eq_of_beq h3)]
     rw [e];refine Y40 ?_;refine s_val (v_callD (fun _ => De_c (sumR 22))) ?_;refine yM ?_;refine s_val (v_callD (fun _ => N_c)) ?_;refine s_call (one_c bs m n H v a hv0 ha (.ba .n) (lessM bs 9 s).2 l (by omega)) ?_;refine s_val (v_callD (fun _ => Ap_c _ _)) ?_;refine yM ?_;refine s_val (v_callD (fun _ => N_c)) ?_;refine s_call (one_c bs m n H v a hv0 ha (.ba .n) (m.f (.ba .n) v a (lessM bs 9 s).2 l).2.1 _ (by omega)) ?_;refine s_val (v_callD (fun _ => Ap_c _ _)) ?_;refine Y10 ?_;exact Tri.ret ⟨.inr rfl, ret1 rfl resV_cell (VImp.refl _), zO⟩
    ·skip
     have g1 : ¬ (lessM bs 9 s).1 = 1 := by simpa using h3
     refine Y12 ?_;refine Tri.cond rfl (fun h4 => ?_) (fun h4 => ?_)
     ·skip
      have e : madeM bs m (.ba .n) v a s l = (apM (deM (sumR 23)) (m.f (.li .n) v a (lessM bs 9 s).2 l).1, (m.f (.li .n) v a (lessM bs 9 s).2 l).2) := by simp only [madeM, if_neg g0, if_neg g1, if_pos (eq_of_beq h4)]
      rw [e];refine Y40 ?_;refine s_val (v_callD (fun _ => De_c (sumR 23))) ?_;refine yM ?_;refine yG ?_;refine s_val (v_callD (fun _ => N_c)) ?_;refine yZ ?_;refine s_val (v_callD (fun _ => D_c (sumR 2) [tyc natY])) ?_;refine s_call (one_c bs m n H v a hv0 ha (.li .n) (lessM bs 9 s).2 l (by omega)) ?_;refine s_val (v_callD (fun _ => Ap_c _ _)) ?_;refine Y25 ?_;exact Tri.ret ⟨.inr rfl, ret1 rfl resV_cell (VImp.refl _), zO⟩
     ·skip
      have g2 : ¬ (lessM bs 9 s).1 = 2 := by simpa using h4
      refine Y12 ?_;refine Tri.cond rfl (fun h5 => ?_) (fun h5 => ?_)
      ·skip
       have e : madeM bs m (.ba .n) v a s l = (apM (deM (sumR 24)) (nuM (lessM bs 4 (lessM bs 9 s).2).1), (lessM bs 4 (lessM bs 9 s).2).2, l) := by simp only [madeM, if_neg g0, if_neg g1, if_neg g2, if_pos (eq_of_beq h5)]
       rw [e];refine Y40 ?_;refine s_val (v_callD (fun _ => De_c (sumR 24))) ?_;refine yL ?_;refine Y13 ?_;refine s_call (less_c bs 4 (lessM bs 9 s).2 (by omega)) ?_;refine s_val (v_callD (fun _ => Nu_c _)) ?_;refine s_val (v_callD (fun _ => Ap_c _ _)) ?_;refine Y25 ?_;exact Tri.ret ⟨.inr rfl, ret1 rfl resV_cell (VImp.refl _), zO⟩
      ·skip
       have g3 : ¬ (lessM bs 9 s).1 = 3 := by simpa using h5
       have hb9 := less_b bs s (n := 9) (by decide)
       refine Y12 ?_;refine Tri.cutT ⟨[(4, .ptr 4 [] 172), (5, .ptr 5 [] 58), (6, .ptr 6 [] 53), (7, .ptr 7 [] 54), (8, .ptr 8 [] 32), (9, .fn (.func 228) [] [.ptr 4 [] 172, .ptr 6 [] 53, .ptr 7 [] 54]), (80, bv (decide ((lessM bs 9 s).1 < 7)))], [(5, .var 58 (.pu (tyc (.mk k' n' r' ks')))), (8, .var 32 (.agg 32 [iv .i64 0, iv .i64 0, .pu (refP Z32), .nilc, .nilc]))] ++ oneR v a ++ mkO bs (lessM bs 9 s).2 l⟩ ?_ ?_
       ·skip
        refine tQ ?_;refine Tri.cond rfl (fun h6 => ?_) (fun h6 => ?_)
        ·skip
         have hx6 : ((lessM bs 9 s).1 == 4) = decide ((lessM bs 9 s).1 < 7) := by have := eq_of_beq h6; rw [this]; rfl
         refine Tri.skip ?_;refine le_of ?_ ?_
         ·repeat (first | exact SubE.nil | refine SubE.cons rfl (by first | rfl | (rw [wrap64 (by omega) (by omega)]; rfl) | (exact congrArg bv hx6)) ?_)
         ·repeat (first | exact SubH.nil | refine SubH.cons rfl (by first | rfl | (rw [wrap64 (by omega) (by omega)]; rfl) | (exact congrArg bv hx6)) ?_)
        ·skip
         refine Y12 ?_;refine Tri.cond rfl (fun h7 => ?_) (fun h7 => ?_)
         ·skip
          have hx6 : ((lessM bs 9 s).1 == 5) = decide ((lessM bs 9 s).1 < 7) := by have := eq_of_beq h7; rw [this]; rfl
          refine Tri.skip ?_;refine le_of ?_ ?_
          ·repeat (first | exact SubE.nil | refine SubE.cons rfl (by first | rfl | (rw [wrap64 (by omega) (by omega)]; rfl) | (exact congrArg bv hx6)) ?_)
          ·repeat (first | exact SubH.nil | refine SubH.cons rfl (by first | rfl | (rw [wrap64 (by omega) (by omega)]; rfl) | (exact congrArg bv hx6)) ?_)
         ·skip
          have hx6 : ((lessM bs 9 s).1 == 6) = decide ((lessM bs 9 s).1 < 7) := by
           have g4 : ¬ (lessM bs 9 s).1 = 4 := by simpa using h6
           have g5 : ¬ (lessM bs 9 s).1 = 5 := by simpa using h7
           rw [Bool.eq_iff_iff, beq_iff_eq, decide_eq_true_iff]
           omega
          refine Y5 ?_;refine Y14 ?_;refine le_of ?_ ?_
          ·repeat (first | exact SubE.nil | refine SubE.cons rfl (by first | rfl | (rw [wrap64 (by omega) (by omega)]; rfl) | (exact congrArg bv hx6)) ?_)
          ·repeat (first | exact SubH.nil | refine SubH.cons rfl (by first | rfl | (rw [wrap64 (by omega) (by omega)]; rfl) | (exact congrArg bv hx6)) ?_)
       ·skip
        refine tQ ?_;refine Tri.cond rfl (fun h8 => ?_) (fun h8 => ?_)
        ·skip
         have e : madeM bs m (.ba .n) v a s l = (prM (fromM bs 1 5 (lessM bs 9 s).2).1 (m.f (.ba .n) v a (fromM bs 1 5 (lessM bs 9 s).2).2 l).1 (m.f (.ba .n) v a (m.f (.ba .n) v a (fromM bs 1 5 (lessM bs 9 s).2).2 l).2.1 (m.f (.ba .n) v a (fromM bs 1 5 (lessM bs 9 s).2).2 l).2.2).1, (m.f (.ba .n) v a (m.f (.ba .n) v a (fromM bs 1 5 (lessM bs 9 s).2).2 l).2.1 (m.f (.ba .n) v a (fromM bs 1 5 (lessM bs 9 s).2).2 l).2.2).2) := by simp only [madeM, if_neg g0, if_neg g1, if_neg g2, if_neg g3, if_pos (of_decide_eq_true h8)]
         rw [e];refine Y28 ?_;refine s_call (from_c bs 1 5 (lessM bs 9 s).2 (by omega)) ?_;refine yM ?_;refine s_val (v_callD (fun _ => N_c)) ?_;refine s_call (one_c bs m n H v a hv0 ha (.ba .n) (fromM bs 1 5 (lessM bs 9 s).2).2 l (by omega)) ?_;refine yM ?_;refine s_val (v_callD (fun _ => N_c)) ?_;refine s_call (one_c bs m n H v a hv0 ha (.ba .n) (m.f (.ba .n) v a (fromM bs 1 5 (lessM bs 9 s).2).2 l).2.1 _ (by omega)) ?_;refine s_val (v_callD (fun _ => Pr_c _ _ _)) ?_;refine Y10 ?_;exact Tri.ret ⟨.inr rfl, ret1 rfl resV_cell (VImp.refl _), zO⟩
        ·skip
         have e : madeM bs m (.ba .n) v a s l = (nuM ([0, 1, 2, 3, 7, 1073741824].getD (lessM bs 6 (lessM bs 9 s).2).1.toNat 0), (lessM bs 6 (lessM bs 9 s).2).2, l) := by simp only [madeM, if_neg g0, if_neg g1, if_neg g2, if_neg g3, if_neg (of_decide_eq_false h8)]
         rw [e]
         have hix : ([0, 1, 2, 3, 7, 1073741824].map fun i : Int => (Pu.leaf (.int .i64 i)))[(lessM bs 6 (lessM bs 9 s).2).1.toNat]? = some (.leaf (.int .i64 ([0, 1, 2, 3, 7, 1073741824].getD (lessM bs 6 (lessM bs 9 s).2).1.toNat 0))) := by
          generalize (lessM bs 6 (lessM bs 9 s).2).1 = z at hb6
          obtain ⟨j, rfl⟩ := Int.eq_ofNat_of_zero_le hb6.1
          have hj : j < 6 := by omega
          rcases j with _ | _ | _ | _ | _ | _ | j <;> first | rfl | omega
         refine Tri.skip ?_;refine yR ?_;refine yZ ?_;refine yL ?_;refine Y13 ?_;refine s_call (less_c bs 6 (lessM bs 9 s).2 (by omega)) ?_;refine s_val (v_indexx SS (h0 := hb6.1) (hp := hix)) ?_;refine yL ?_;refine s_val (v_callD (fun _ => Nu_c _)) ?_;refine Y10 ?_;exact Tri.ret ⟨.inr rfl, ret1 rfl resV_cell (VImp.refl _), zO⟩
  ·skip
   refine Y16 ?_;refine yG ?_;refine s_val (v_bin SS (h := bin_eqS (hrl.trans hs1.symm))) ?_;refine Y2 ?_;refine Tri.cond rfl (fun h9 => ?_) (fun h9 => ?_)
   ·skip
    obtain rfl := tt_bool hty (by simpa using h9)
    rw [show madeM bs m (.ba .b) v a s l = (coM (sumR 1) (lessM bs 2 s).1 [], (lessM bs 2 s).2, l) from rfl];refine Y40 ?_;refine yL ?_;refine Y13 ?_;refine s_call (less_c bs 2 s (by omega)) ?_;refine s_val (v_callD (fun _ => Co_c (sumR 1) _ [])) ?_;refine Y25 ?_;exact Tri.ret ⟨.inr rfl, ret1 rfl resV_cell (VImp.refl _), zO⟩
   ·skip
    have g1 : ¬ k' = 3 := by simpa using h0
    have g2 : ¬ k' = 2 := by simpa using h1
    have g3 : ¬ r' = sumR 1 := by simpa using h9
    refine Y16 ?_;refine yG ?_;refine s_val (v_bin SS (h := bin_eqS (hrl.trans hs2'.symm))) ?_;refine Y60 ?_;refine s_gg zG (v_nilCheck SS) ?_;refine Y7 ?_;refine s_callG zG (f := 115) (args := [.ptr 950 [] 171, iv .i64 3]) (HR := []) (H := stO bs s) (H' := stO bs (if r' = sumR 2 then (seldomM bs 3 s).2 else s)) (v := bv (seldomM bs 3 s).1) (fun e => ?_) (fun e => ?_) ?_
    ·have e' : r' = sumR 2 := by simpa using e
     rw [if_pos e'];exact seldom_c bs 3 s (by omega)
    ·have e' : ¬ r' = sumR 2 := by simpa using e
     exact .cons rfl (by simp [e']) .nil
    refine xQ ?_;refine yN ?_;refine Y14 ?_
    have hb2 : Bd (if r' = sumR 2 then (seldomM bs 3 s).2 else s) l (k + 1) := by
     split
     ·exact inferInstance
     ·exact Bd.mono h (by omega)
    generalize hs2 : (if r' = sumR 2 then (seldomM bs 3 s).2 else s) = s2 at hb2 ⊢
    refine tQ ?_;refine Tri.cond rfl (fun h10 => ?_) (fun h10 => ?_)
    ·skip
     have hq : r' = sumR 2 ∧ (seldomM bs 3 s).1 = false := by simpa using h10
     rw [if_pos hq.1] at hs2
     subst hs2
     obtain ⟨hq1, hq2⟩ := hq
     subst hq1
     obtain ⟨x, rfl, rfl, rfl, rfl⟩ := tt_list hty rfl
     have e : madeM bs m (.li x) v a s l = (coM (sumR 2) 1 [(m.f (.ba x) v a (seldomM bs 3 s).2 l).1, (m.f (.li x) v a (m.f (.ba x) v a (seldomM bs 3 s).2 l).2.1 (m.f (.ba x) v a (seldomM bs 3 s).2 l).2.2).1], (m.f (.li x) v a (m.f (.ba x) v a (seldomM bs 3 s).2 l).2.1 (m.f (.ba x) v a (seldomM bs 3 s).2 l).2.2).2) := by simp only [madeM, if_pos hq2]
     rw [e];refine Y40 ?_;refine yM ?_;refine Y9 ?_;refine s_val (v_index SS (h0 := by omega) (hp := (rfl : (tysc [x.ty])[0]? = some _))) ?_;refine yL ?_;refine s_call (one_c bs m n H v a hv0 ha (.ba x) (seldomM bs 3 s).2 l (by omega)) ?_;refine Y30 ?_;refine s_call (one_c bs m n H v a hv0 ha (.li x) (m.f (.ba x) v a (seldomM bs 3 s).2 l).2.1 _ (by omega)) ?_;refine yZ ?_;refine s_val (v_callD (fun _ => Co_c (sumR 2) 1 [_, _])) ?_;refine Y25 ?_;exact Tri.ret ⟨.inr rfl, ret1 rfl resV_cell (VImp.refl _), zO⟩
    ·skip
     have hq2 : r' = sumR 2 → (seldomM bs 3 s).1 = true := fun e => by simpa [e] using h10
     refine Y16 ?_;refine yG ?_;refine s_val (v_bin SS (h := bin_eqS (hrl.trans hs4.symm))) ?_;refine Y60 ?_;refine s_gg zG (v_nilCheck SS) ?_;refine Y7 ?_;refine s_callG zG (f := 115) (args := [.ptr 950 [] 171, iv .i64 3]) (HR := []) (H := stO bs s2) (H' := stO bs (if r' = sumR 4 then (seldomM bs 3 s2).2 else s2)) (v := bv (seldomM bs 3 s2).1) (fun e => ?_) (fun e => ?_) ?_
     ·have e' : r' = sumR 4 := by simpa using e
      rw [if_pos e'];exact seldom_c bs 3 s2 (by omega)
     ·have e' : ¬ r' = sumR 4 := by simpa using e
      exact .cons rfl (by simp [e']) .nil
     refine xQ ?_;refine yN ?_;refine Y14 ?_
     have hb3 : Bd (if r' = sumR 4 then (seldomM bs 3 s2).2 else s2) l (k + 2) := by
      split
      ·exact Bd.mono (inferInstance : Bd (seldomM bs 3 s2).2 l (k + 1 + 1)) (by omega)
      ·exact Bd.mono hb2 (by omega)
     generalize hs3 : (if r' = sumR 4 then (seldomM bs 3 s2).2 else s2) = s3 at hb3 ⊢
     refine tQ ?_;refine Tri.cond rfl (fun h11 => ?_) (fun h11 => ?_)
     ·skip
      have hq : r' = sumR 4 ∧ (seldomM bs 3 s2).1 = false := by simpa using h11
      rw [if_pos hq.1] at hs3
      subst hs3
      rw [if_neg (by rw [hq.1]; decide)] at hs2
      subst hs2
      obtain ⟨x, rfl, rfl, rfl, rfl⟩ := tt_opt hty hq.1
      have e : madeM bs m (.op x) v a s l = (coM (sumR 4) 1 [(m.f (.ba x) v a (seldomM bs 3 s).2 l).1], (m.f (.ba x) v a (seldomM bs 3 s).2 l).2) := by simp only [madeM, if_pos hq.2]
      rw [e];refine Y40 ?_;refine yM ?_;refine Y9 ?_;refine s_val (v_index SS (h0 := by omega) (hp := (rfl : (tysc [x.ty])[0]? = some _))) ?_;refine yL ?_;refine s_call (one_c bs m n H v a hv0 ha (.ba x) (seldomM bs 3 s).2 l (by omega)) ?_;refine yZ ?_;refine s_val (v_callD (fun _ => Co_c (sumR 4) 1 [_])) ?_;refine Y25 ?_;exact Tri.ret ⟨.inr rfl, ret1 rfl resV_cell (VImp.refl _), zO⟩
     ·skip
      have hq4 : r' = sumR 4 → (seldomM bs 3 s2).1 = true := fun e => by simpa [e] using h11
      refine Y16 ?_;refine yG ?_;refine s_val (v_bin SS (h := bin_eqS (hrl.trans hs3'.symm))) ?_;refine Y2 ?_;refine Tri.cond rfl (fun h12 => ?_) (fun h12 => ?_)
      ·skip
       have hq : r' = sumR 3 := by simpa using h12
       rw [if_neg (by rw [hq]; decide)] at hs3
       subst hs3
       rw [if_neg (by rw [hq]; decide)] at hs2
       subst hs2
       obtain ⟨x, y, rfl, rfl, rfl, rfl⟩ := tt_pair hty hq
       rw [show madeM bs m (.pa x y) v a s l = (coM (sumR 3) 0 [(m.f (.ba x) v a s l).1, (m.f (.ba y) v a (m.f (.ba x) v a s l).2.1 (m.f (.ba x) v a s l).2.2).1], (m.f (.ba y) v a (m.f (.ba x) v a s l).2.1 (m.f (.ba x) v a s l).2.2).2) from rfl];refine Y40 ?_;refine yM ?_;refine Y9 ?_;refine s_val (v_index SS (h0 := by omega) (hp := (rfl : (tysc [x.ty, y.ty])[0]? = some _))) ?_;refine yL ?_;refine s_call (one_c bs m n H v a hv0 ha (.ba x) s l (by omega)) ?_;refine yM ?_;refine Y9 ?_;refine s_val (v_index SS (h0 := by omega) (hp := (rfl : (tysc [x.ty, y.ty])[1]? = some _))) ?_;refine yL ?_;refine s_call (one_c bs m n H v a hv0 ha (.ba y) (m.f (.ba x) v a s l).2.1 _ (by omega)) ?_;refine yZ ?_;refine s_val (v_callD (fun _ => Co_c (sumR 3) 0 [_, _])) ?_;refine Y25 ?_;exact Tri.ret ⟨.inr rfl, ret1 rfl resV_cell (VImp.refl _), zO⟩
      ·skip
       have e : madeM bs m t v a s l = (coM r' 0 [], s3, l) := by
        rcases tt_rest hty g1 g2 g3 (by simpa using h12) with ⟨x, rfl, hr⟩ | ⟨x, rfl, hr⟩
        ·rw [if_neg (by rw [hr]; decide)] at hs3
         rw [if_pos hr] at hs2
         have := hq2 hr
         simp only [madeM, this, ← hs3, ← hs2, hr]
         rfl
        ·rw [if_pos hr] at hs3
         rw [if_neg (by rw [hr]; decide)] at hs2
         have := hq4 hr
         rw [← hs2] at this hs3
         simp only [madeM, this, ← hs3, hr]
         rfl
       rw [e];refine Tri.skip ?_;refine Y16 ?_;refine s_val (v_callD (fun _ => Co_c r' 0 [])) ?_;refine Y10 ?_;exact Tri.ret ⟨.inr rfl, ret1 rfl resV_cell (VImp.refl _), zO⟩
end Go.Proofs.YtkcgkignhpepkaaGreatDoor

/- The maker's questions and matches. -/
namespace Go.Proofs.YtkcgkignhpepkaaGreatDoor
open Go Hs
class Dn (x l : Int) : Prop where
 h : x ≤ l
instance dn_refl (l : Int) : Dn l l := ⟨Int.le_refl _⟩
instance (m : Mk) [hm : Ml m] (t : TT) (v : List Ty) (a : List AB) (s : Sd) (x l : Int) [h : Dn x l] : Dn (m.f t v a s x).2.2 l := ⟨Int.le_trans (hm.h t v a s x) h.h⟩
section
variable (bs : List Int) (m : Mk) [hm : Ml m]
instance (t : TT) (v : List Ty) (a : List AB) (s : Sd) (x l : Int) [h : Dn x l] : Dn (madeM bs m t v a s x).2.2 l := by
 cases t with
 | ba y =>
  cases y <;> simp only [madeM] <;> repeat' split
  all_goals infer_instance
 | li y => simp only [madeM]; split <;> infer_instance
 | op y => simp only [madeM]; split <;> infer_instance
 | pa y z => simp only [madeM]; infer_instance
 | fn y => simp only [madeM]; infer_instance
instance (t : TT) (v : List Ty) (a : List AB) (s : Sd) (x l : Int) [h : Dn x l] : Dn (askMk bs m t v a s x).2.2 l := by
 simp only [askMk]
 repeat' split
 all_goals infer_instance
instance (t : TT) (v : List Ty) (a : List AB) (s : Sd) (x l : Int) [h : Dn x l] : Dn (matchMk bs m t v a s x).2.2 l := by
 simp only [matchMk]
 repeat' split
 all_goals infer_instance
instance (t : TT) (v : List Ty) (a : List AB) (b : BT) (s : Sd) (x l : Int) [h : Dn x l] : Dn (clauseM bs m t v a b s x).2.2 l := by
 simp only [clauseM]
 repeat' split
 all_goals infer_instance
instance clauses_dn (t : TT) (v : List Ty) (a : List AB) (b : BT) (s : Sd) (x l : Int) [h : Dn x l] : ∀ i, Dn (clausesM bs m t v a b s x i).2.2 l
 | 0 => h
 | i + 1 => by
  have := clauses_dn t v a b s x l i
  simp only [clausesM]
  infer_instance
instance (t : TT) (v : List Ty) (a : List AB) (s : Sd) (x l : Int) [h : Dn x l] : Dn (handleMk bs m t v a s x).2.2 l := by
 simp only [handleMk]
 split
 ·infer_instance
 ·exact clauses_dn bs m t v a _ _ _ l _
instance (t : TT) (v : List Ty) (a : List AB) (s : Sd) (x l : Int) [h : Dn x l] : Dn (nodeM bs m t v a s x).2.2 l := by
 simp only [nodeM]
 repeat' split
 all_goals infer_instance
end
instance term_ml (bs : List Int) : ∀ n : Nat, Ml (termMk bs n)
 | 0 => ⟨fun t v a s l => by simp only [termMk]; omega⟩
 | n + 1 => ⟨fun t v a s l => by
  have ih := term_ml bs n
  simp only [termMk]
  split
  ·show l - 1 ≤ l
   omega
  ·have := (inferInstance : Dn (nodeM bs (termMk bs n) t v a s (l - 1)).2.2 (l - 1)).h
   show (nodeM bs (termMk bs n) t v a s (l - 1)).2.2 ≤ l
   omega⟩
theorem Lt.dn {x l : Int} {n : Nat} (h : Lt l n) (d : Dn x l) : Lt x n := ⟨Int.le_trans d.h h.h⟩
variable (bs : List Int) [hz : Bz bs] (m : Mk) [hm : Mc m] [hml : Ml m] (n : Nat)
theorem ask_cond {t : TT} {k' n' : Int} {r' : List Int} {ks' : List Ty} (hty : t.ty = .mk k' n' r' ks') (c : AB) :
  (((sameTy (.mk k' n' r' ks') natY == (c.ref == sumR 12)) || ((k' != 2) && !(c.ref == sumR 12))) || ((c.ref == sumR 12) && !(sameTy (.mk k' n' r' ks') (.mk 4 0 (sumR 1) [])))) = !decide ((t = .ba .n ∧ c ≠ .fl) ∨ (t = .ba .b ∧ c = .fl)) := by
 rcases t with (_ | _) | (_ | _) | (_ | _) | ⟨_ | _, _ | _⟩ | (_ | _) <;> simp only [TT.ty, BT.ty, natY, Ty.mk.injEq] at hty <;> obtain ⟨rfl, rfl, rfl, rfl⟩ := hty <;> cases c <;> rfl
theorem ab_st (c : AB) : (c.ref == sumR 11) = decide (c = .st) := by cases c <;> rfl
theorem sums_get (a : List AB) {i : Nat} (h : i < a.length) : (sumsP a)[i]? = some (refP (a.getD i .ab).ref) := by
 simp [sumsP, List.getD_eq_getElem?_getD, h]
set_option maxHeartbeats 1000000 in
theorem ask_c (H : TermC bs m n) (t : TT) (v : List Ty) (a : List AB) (hv : Vk v n) (ha : a.length + n ≤ 40) (s : Sd) (l : Int) {k : Int} [h : Bd s l k] [hl : Lt l n] (hk : k ≤ -300) :
  HCall Tryz.prog gL 177 [.ptr 951 [] 174, .pu (tyc t.ty), .pu (.sl 0 58 (tysc v)), .pu (.sl 0 28 (sumsP a))] [] (mkO bs s l) (.tup [.pu (tmc 0 (askMk bs m t v a s l).1.1), bv (askMk bs m t v a s l).1.2]) (mkO bs (askMk bs m t v a s l).2.1 (askMk bs m t v a s l).2.2) [] := by
 obtain ⟨k', n', r', ks', hty⟩ : ∃ k n r ks, t.ty = .mk k n r ks := by rcases t.ty with ⟨a, b, c, d⟩; exact ⟨a, b, c, d, rfl⟩
 have hsm := tt_small t
 rw [hty] at hsm ⊢
 have hal := sums_len a
 refine HCall.of_triD tbl 72 [950, 951] Tryz.func177 rfl rfl rfl fun w0 M ρ0 D0 => ?_
 refine yR ?_;refine s_box SS 5 ?_;refine s_alloc SS 8 ?_;refine yB ?_;refine e_seqN [5, 8] ?_;refine Y37 ?_;refine Y45 ?_;refine Tri.cond rfl (fun h0 => ?_) (fun h0 => ?_)
 ·skip
  have g0 : a.length = 0 := by have := eq_of_beq h0; omega
  have e : askMk bs m t v a s l = ((zeroM, false), s, l) := by unfold askMk; rw [if_pos g0]
  rw [e];refine Y58 ?_;refine Y59 ?_;exact Tri.ret ⟨.inr rfl, ret2 rfl resV_cell (ToPu.imp (by repeat constructor)) resV_tmp (VImp.refl _), zO⟩
 ·skip
  have g0 : ¬ a.length = 0 := by intro e; rw [hal, e] at h0; simp at h0
  have hb := less_b bs s (n := (a.length : Int)) (by omega)
  have hget := sums_get a (i := (lessM bs a.length s).1.toNat) (by omega)
  obtain ⟨c, hc⟩ : ∃ c, c = a.getD (lessM bs a.length s).1.toNat .ab := ⟨_, rfl⟩
  rw [← hc] at hget
  have hcl : c.ref.length = (sumR 12).length := by rw [ab_len]; rfl
  have hcl1 : c.ref.length = (sumR 11).length := by rw [ab_len]; rfl
  refine Tri.skip ?_;refine Y29 ?_;refine Y13 ?_;refine yM ?_;refine yC ?_;rw [hal];refine s_call (less_c bs _ s (by omega)) ?_;refine s_val (v_index SS (h0 := hb.1) (hp := hget)) ?_;refine yL ?_;refine s_alloc SS 10 ?_;refine yS ?_;refine yB ?_;refine e_seqN [10] ?_;refine Y4 ?_;refine s_val (v_callD (fun _ => N_c)) ?_;refine s_val (v_callD (fun _ => sameY_c _ (.mk k' n' r' ks') natY (Nat.le_refl _) (by omega) (by decide))) ?_;refine yL ?_;refine yG ?_;refine s_val (v_bin SS (h := bin_eqS hcl)) ?_;refine s_val (v_bin SS (h := eqBool _ _)) ?_;refine Y15 ?_;refine xI ?_;refine xM ?_;refine xL ?_;refine s_gg zG (v_loadp SS) ?_;refine s_gg zG (v_bin SS (h := bin_neS hcl)) ?_;refine xN ?_;refine yO ?_;refine Y60 ?_;refine s_gg zG (v_loadp SS) ?_;refine s_gg zG (v_bin SS (h := bin_eqS hcl)) ?_;refine xM ?_;refine xL ?_
  refine s_gg zG (v_loadp SS) ?_;refine s_gg zG (v_callD (fun _ => D_c (sumR 1) [])) ?_;refine s_gg zG (v_callD (fun _ => sameY_c _ (.mk k' n' r' ks') (.mk 4 0 (sumR 1) []) (Nat.le_refl _) (by omega) (by decide))) ?_;refine xQ ?_;refine xN ?_;refine yO ?_;refine e_draw ?_
  have hcd := ask_cond hty c
  refine tQ ?_;refine Tri.cond rfl (fun h1 => ?_) (fun h1 => ?_)
  ·skip
   have g1 : ¬ ((t = .ba .n ∧ c ≠ .fl) ∨ (t = .ba .b ∧ c = .fl)) := by
    intro hx
    have := hcd.symm.trans h1
    rw [decide_eq_true hx] at this
    cases this
   have e : askMk bs m t v a s l = ((zeroM, false), (lessM bs a.length s).2, l) := by
    unfold askMk
    rw [if_neg g0]
    simp only [← hc]
    rw [if_neg g1]
   rw [e];refine Y58 ?_;refine Y59 ?_;exact Tri.ret ⟨.inr rfl, ret2 rfl resV_cell (ToPu.imp (by repeat constructor)) resV_tmp (VImp.refl _), zO⟩
  ·skip
   have g1 : ((t = .ba .n ∧ c ≠ .fl) ∨ (t = .ba .b ∧ c = .fl)) := Decidable.byContradiction fun hx => by
    have := hcd.symm.trans h1
    rw [decide_eq_false hx] at this
    cases this
   refine Tri.skip ?_;refine Y4 ?_;refine yG ?_;refine s_val (v_bin SS (h := bin_eqS hcl1)) ?_;refine Y0 ?_;refine Tri.cond rfl (fun h2 => ?_) (fun h2 => ?_)
   ·skip
    have g2 : c = .st := by have := (ab_st c).symm.trans h2; simpa using this
    have e : askMk bs m t v a s l = ((doT c.ref (lessM bs 2 (lessM bs a.length s).2).1 (m.f (.ba .n) v a (lessM bs 2 (lessM bs a.length s).2).2 l).1, true), (m.f (.ba .n) v a (lessM bs 2 (lessM bs a.length s).2).2 l).2) := by
     unfold askMk
     rw [if_neg g0]
     simp only [← hc]
     rw [if_pos g1, if_pos g2]
    rw [e]
    have hsp : Bd (lessM bs 2 (lessM bs a.length s).2).2 l (k + 2) := Bd.mono (inferInstance : Bd (lessM bs 2 (lessM bs a.length s).2).2 l (k + 1 + 1)) (by omega)
    refine Y47 ?_;refine s_call (less_c bs 2 (lessM bs a.length s).2 (by omega)) ?_;refine Y14 ?_
    obtain ⟨q, hq⟩ : ∃ q, q = (lessM bs 2 (lessM bs a.length s).2).2 := ⟨_, rfl⟩
    rw [← hq] at hsp ⊢
    refine Y4 ?_;refine Y21 ?_;refine s_val (v_callD (fun _ => N_c)) ?_;refine Y21 ?_;refine s_call (H (.ba .n) v a q l (k + 2) hv ha (by omega)) ?_;refine s_val (v_callD (fun _ => Ask_c c.ref _ _)) ?_;refine yS ?_;refine yB ?_;refine Y18 ?_;exact Tri.ret ⟨.inr rfl, ret2 rfl resV_cell (VImp.refl _) resV_tmp (VImp.refl _), zO⟩
   ·skip
    have g2 : ¬ c = .st := by have := (ab_st c).symm.trans h2; exact of_decide_eq_false this
    have e : askMk bs m t v a s l = ((doT c.ref 0 (m.f (.ba .n) v a (lessM bs a.length s).2 l).1, true), (m.f (.ba .n) v a (lessM bs a.length s).2 l).2) := by
     unfold askMk
     rw [if_neg g0]
     simp only [← hc]
     rw [if_pos g1, if_neg g2]
    rw [e]
    have hsp : Bd (lessM bs a.length s).2 l (k + 2) := Bd.mono (inferInstance : Bd (lessM bs a.length s).2 l (k + 1)) (by omega)
    obtain ⟨q, hq⟩ : ∃ q, q = (lessM bs a.length s).2 := ⟨_, rfl⟩
    rw [← hq] at hsp ⊢
    refine Tri.skip ?_;refine Y4 ?_;refine Y21 ?_;refine s_val (v_callD (fun _ => N_c)) ?_;refine Y21 ?_;refine s_call (H (.ba .n) v a q l (k + 2) hv ha (by omega)) ?_;refine s_val (v_callD (fun _ => Ask_c c.ref _ _)) ?_;refine yS ?_;refine yB ?_;refine Y18 ?_;exact Tri.ret ⟨.inr rfl, ret2 rfl resV_cell (VImp.refl _) resV_tmp (VImp.refl _), zO⟩
set_option maxHeartbeats 2000000 in
theorem match_c (H : TermC bs m n) (t : TT) (v : List Ty) (a : List AB) (hv : Vk v (n + 1)) (ha : a.length + n ≤ 40) (s : Sd) (l : Int) {k : Int} [h : Bd s l k] [hl : Lt l n] (hk : k ≤ -500) :
  HCall Tryz.prog gL 176 [.ptr 951 [] 174, .pu (tyc t.ty), .pu (.sl 0 58 (tysc v)), .pu (.sl 0 28 (sumsP a))] [] (mkO bs s l) (.pu (tmc 0 (matchMk bs m t v a s l).1)) (mkO bs (matchMk bs m t v a s l).2.1 (matchMk bs m t v a s l).2.2) [] := by
 have hvl := hv.len
 have hv0 : Vk v n := hv.less
 have hs1 (x : BT) : ysize x.ty ≤ 3 := bt_small x
 have hs2 (x : BT) : ysize (TT.li x).ty ≤ 3 := tt_small _
 have hu1 (x : BT) : Vk (v ++ [x.ty]) n := hv.app (by simp) (by simp [hs1])
 have hu2 : Vk (v ++ [natY]) n := hu1 .n
 have hu3 (x : BT) : Vk (v ++ [x.ty, natY]) n := hv.app (by simp) (by simp [hs1]; exact hs1 .n)
 have hu4 (x : BT) : Vk (v ++ [x.ty, (TT.li x).ty]) n := hv.app (by simp) (by simp [hs1, hs2])
 obtain ⟨u, hu⟩ : ∃ u, u = plain0M bs s := ⟨_, rfl⟩
 obtain ⟨q, hq⟩ : ∃ q, q = lessM bs 6 (plain0M bs s).2 := ⟨_, rfl⟩
 have hbu : Bd u.2 l (k + 1) := hu ▸ inferInstance
 have hbq : Bd q.2 l (k + 2) := hq ▸ Bd.mono (inferInstance : Bd (lessM bs 6 (plain0M bs s).2).2 l (k + 1 + 1)) (by omega)
 refine HCall.of_triD tbl 254 [950, 951] Tryz.func176 rfl rfl rfl fun w0 M ρ0 D0 => ?_
 simp only [matchMk]
 refine yR ?_;refine s_box SS 5 ?_;refine s_alloc SS 8 ?_;refine e_seqN [5, 8] ?_;refine Y47 ?_;refine s_call (plain0_c bs s (by omega)) ?_;refine s_alloc SS 9 ?_;refine yS ?_;refine e_seqN [9] ?_;refine Y47 ?_;refine s_call (less_c bs 6 (plain0M bs s).2 (by omega)) ?_;refine e_seq ?_;rw [← hq, ← hu];refine tQ ?_;refine Tri.block ?_;refine Y12 ?_;refine Tri.cond rfl (fun h0 => ?_) (fun h0 => ?_)
 ·skip
  rw [if_pos (eq_of_beq h0)];refine Y1 ?_;refine s_val (v_callD (fun _ => N_c)) ?_;refine Y21 ?_;refine s_call (H (.ba .n) v a q.2 l _ hv0 ha (by omega)) ?_;refine s_alloc SS 10 ?_;refine yS ?_;refine e_seqN [10] ?_;refine Y4 ?_;refine yM ?_;refine Y13 ?_;refine s_call (less_c bs 3 (m.f (.ba .n) v a q.2 l).2.1 (by omega)) ?_;refine s_val (v_callD (fun _ => PN_c _)) ?_;refine Y30 ?_;refine Y21 ?_;refine s_call (H t v a (lessM bs 3 (m.f (.ba .n) v a q.2 l).2.1).2 _ _ hv0 ha (by omega)) ?_;refine s_val (v_callD (fun _ => Ca_c (pnM _) _)) ?_;refine s_val (v_callD (fun _ => Any_c)) ?_;refine Y30 ?_;refine yM ?_;refine s_val (v_callD (fun _ => N_c)) ?_;refine yZ ?_;refine s_val (v_callD (fun _ => bound_c v [natY] (by omega) (by simp))) ?_;refine yM ?_
  refine s_call (H t (v ++ [natY]) a (m.f t v a (lessM bs 3 (m.f (.ba .n) v a q.2 l).2.1).2 (m.f (.ba .n) v a q.2 l).2.2).2.1 _ _ hu2 ha (by omega)) ?_;refine s_val (v_callD (fun _ => Ca_c anyM _)) ?_;refine yZ ?_;refine s_val (v_callD (fun _ => Ma_c _ [.mk (pnM _) _, .mk anyM _])) ?_;refine Y25 ?_;exact Tri.ret ⟨.inr rfl, ret1 rfl resV_cell (VImp.refl _), zO⟩
 ·skip
  rw [if_neg (fun e => by rw [e] at h0; simp at h0)];refine Y12 ?_;refine Tri.cond rfl (fun h1 => ?_) (fun h1 => ?_)
  ·skip
   rw [if_pos (eq_of_beq h1)];refine Y1 ?_;refine yG ?_;refine s_val (v_callD (fun _ => D_c (sumR 1) [])) ?_;refine Y21 ?_;refine s_call (H (.ba .b) v a q.2 l _ hv0 ha (by omega)) ?_;refine s_alloc SS 11 ?_;refine yS ?_;refine e_seqN [11] ?_;refine Y4 ?_;refine yG ?_;refine yM ?_;refine Y13 ?_;refine s_call (less_c bs 2 (m.f (.ba .b) v a q.2 l).2.1 (by omega)) ?_;refine s_val (v_callD (fun _ => PC_c (sumR 1) _ [])) ?_;refine Y30 ?_;refine Y21 ?_;refine s_call (H t v a (lessM bs 2 (m.f (.ba .b) v a q.2 l).2.1).2 _ _ hv0 ha (by omega)) ?_;refine s_val (v_callD (fun _ => Ca_c (pcM (sumR 1) _ []) _)) ?_;refine s_val (v_callD (fun _ => Any_c)) ?_;refine Y30 ?_;refine yM ?_;refine yG ?_;refine s_val (v_callD (fun _ => D_c (sumR 1) [])) ?_;refine yZ ?_;refine s_val (v_callD (fun _ => bound_c v [BT.b.ty] (by omega) (by simp))) ?_
   refine yM ?_;refine s_call (H t (v ++ [BT.b.ty]) a (m.f t v a (lessM bs 2 (m.f (.ba .b) v a q.2 l).2.1).2 (m.f (.ba .b) v a q.2 l).2.2).2.1 _ _ (hu1 .b) ha (by omega)) ?_;refine s_val (v_callD (fun _ => Ca_c anyM _)) ?_;refine yZ ?_;refine s_val (v_callD (fun _ => Ma_c _ [.mk (pcM (sumR 1) _ []) _, .mk anyM _])) ?_;refine Y25 ?_;exact Tri.ret ⟨.inr rfl, ret1 rfl resV_cell (VImp.refl _), zO⟩
  ·skip
   rw [if_neg (fun e => by rw [e] at h1; simp at h1)];refine Y12 ?_;refine Tri.cond rfl (fun h2 => ?_) (fun h2 => ?_)
   ·skip
    rw [if_pos (eq_of_beq h2)];refine Y1 ?_;refine yG ?_;refine Y56 ?_;refine s_val (v_callD (fun _ => D_c (sumR 2) [_])) ?_;refine Y21 ?_;refine s_call (H (.li u.1) v a q.2 l _ hv0 ha (by omega)) ?_;refine s_alloc SS 12 ?_;refine yS ?_;refine e_seqN [12] ?_;refine Y4 ?_;refine yG ?_;refine s_val (v_callD (fun _ => PC_c (sumR 2) 0 [])) ?_;refine Y30 ?_;refine Y21 ?_;refine s_call (H t v a (m.f (.li u.1) v a q.2 l).2.1 _ _ hv0 ha (by omega)) ?_;refine s_val (v_callD (fun _ => Ca_c (pcM (sumR 2) 0 []) _)) ?_;refine yG ?_;refine s_val (v_callD (fun _ => Any_c)) ?_;refine yG ?_;refine s_val (v_callD (fun _ => PC_c (sumR 2) 0 [])) ?_;refine yZ ?_;refine s_val (v_callD (fun _ => PC_c (sumR 2) 1 [anyM, pcM (sumR 2) 0 []])) ?_;refine Y30 ?_;refine Y30 ?_;refine yZ ?_
    refine s_val (v_callD (fun _ => bound_c v [u.1.ty] (by omega) (by simp))) ?_;refine yM ?_;refine s_call (H t (v ++ [u.1.ty]) a (m.f t v a (m.f (.li u.1) v a q.2 l).2.1 (m.f (.li u.1) v a q.2 l).2.2).2.1 _ _ (hu1 u.1) ha (by omega)) ?_;refine s_val (v_callD (fun _ => Ca_c (pcM (sumR 2) 1 [anyM, pcM (sumR 2) 0 []]) _)) ?_;refine yG ?_;refine s_val (v_callD (fun _ => Any_c)) ?_;refine s_val (v_callD (fun _ => Any_c)) ?_;refine yZ ?_;refine s_val (v_callD (fun _ => PC_c (sumR 2) 1 [anyM, anyM])) ?_;refine Y30 ?_;refine Y30 ?_;refine yG ?_;refine Y56 ?_;refine s_val (v_callD (fun _ => D_c (sumR 2) [_])) ?_;refine yZ ?_;refine s_val (v_callD (fun _ => bound_c v [u.1.ty, (TT.li u.1).ty] (by omega) (by simp))) ?_;refine yM ?_
    refine s_call (H t (v ++ [u.1.ty, (TT.li u.1).ty]) a (m.f t (v ++ [u.1.ty]) a (m.f t v a (m.f (.li u.1) v a q.2 l).2.1 (m.f (.li u.1) v a q.2 l).2.2).2.1 (m.f t v a (m.f (.li u.1) v a q.2 l).2.1 (m.f (.li u.1) v a q.2 l).2.2).2.2).2.1 _ _ (hu4 u.1) ha (by omega)) ?_;refine s_val (v_callD (fun _ => Ca_c (pcM (sumR 2) 1 [anyM, anyM]) _)) ?_;refine yZ ?_;refine s_val (v_callD (fun _ => Ma_c _ [.mk (pcM (sumR 2) 0 []) _, .mk (pcM (sumR 2) 1 [anyM, pcM (sumR 2) 0 []]) _, .mk (pcM (sumR 2) 1 [anyM, anyM]) _])) ?_;refine Y25 ?_;exact Tri.ret ⟨.inr rfl, ret1 rfl resV_cell (VImp.refl _), zO⟩
   ·skip
    rw [if_neg (fun e => by rw [e] at h2; simp at h2)];refine Y12 ?_;refine Tri.cond rfl (fun h3 => ?_) (fun h3 => ?_)
    ·skip
     rw [if_pos (eq_of_beq h3)];refine Y1 ?_;refine yG ?_;refine Y56 ?_;refine s_val (v_callD (fun _ => D_c (sumR 4) [_])) ?_;refine Y21 ?_;refine s_call (H (.op u.1) v a q.2 l _ hv0 ha (by omega)) ?_;refine s_alloc SS 13 ?_;refine yS ?_;refine e_seqN [13] ?_;refine Y4 ?_;refine yG ?_;refine s_val (v_callD (fun _ => Any_c)) ?_;refine yZ ?_;refine s_val (v_callD (fun _ => PC_c (sumR 4) 1 [anyM])) ?_;refine Y30 ?_;refine Y30 ?_;refine yZ ?_;refine s_val (v_callD (fun _ => bound_c v [u.1.ty] (by omega) (by simp))) ?_;refine yM ?_;refine s_call (H t (v ++ [u.1.ty]) a (m.f (.op u.1) v a q.2 l).2.1 _ _ (hu1 u.1) ha (by omega)) ?_;refine s_val (v_callD (fun _ => Ca_c (pcM (sumR 4) 1 [anyM]) _)) ?_;refine yG ?_;refine s_val (v_callD (fun _ => PC_c (sumR 4) 0 [])) ?_;refine Y30 ?_;refine Y21 ?_
     refine s_call (H t v a (m.f t (v ++ [u.1.ty]) a (m.f (.op u.1) v a q.2 l).2.1 (m.f (.op u.1) v a q.2 l).2.2).2.1 _ _ hv0 ha (by omega)) ?_;refine s_val (v_callD (fun _ => Ca_c (pcM (sumR 4) 0 []) _)) ?_;refine yZ ?_;refine s_val (v_callD (fun _ => Ma_c _ [.mk (pcM (sumR 4) 1 [anyM]) _, .mk (pcM (sumR 4) 0 []) _])) ?_;refine Y25 ?_;exact Tri.ret ⟨.inr rfl, ret1 rfl resV_cell (VImp.refl _), zO⟩
    ·skip
     rw [if_neg (fun e => by rw [e] at h3; simp at h3)];refine Y12 ?_;refine Tri.cond rfl (fun h4 => ?_) (fun h4 => ?_)
     ·skip
      rw [if_pos (eq_of_beq h4)];refine Y1 ?_;refine yG ?_;refine yL ?_;refine s_val (v_callD (fun _ => N_c)) ?_;refine yZ ?_;refine s_val (v_callD (fun _ => D_c (sumR 3) [_, _])) ?_;refine Y21 ?_;refine s_call (H (.pa u.1 .n) v a q.2 l _ hv0 ha (by omega)) ?_;refine s_alloc SS 14 ?_;refine yS ?_;refine e_drawN [14] ?_;refine Y4 ?_;refine yG ?_;refine s_val (v_callD (fun _ => Any_c)) ?_;refine yM ?_;refine Y13 ?_;refine s_call (less_c bs 2 (m.f (.pa u.1 .n) v a q.2 l).2.1 (by omega)) ?_;refine s_val (v_callD (fun _ => PN_c _)) ?_;refine yZ ?_;refine s_val (v_callD (fun _ => PC_c (sumR 3) 0 [anyM, pnM _])) ?_;refine Y30 ?_;refine Y30 ?_;refine yZ ?_;refine s_val (v_callD (fun _ => bound_c v [u.1.ty] (by omega) (by simp))) ?_;refine yM ?_
      refine s_call (H t (v ++ [u.1.ty]) a (lessM bs 2 (m.f (.pa u.1 .n) v a q.2 l).2.1).2 _ _ (hu1 u.1) ha (by omega)) ?_;refine s_val (v_callD (fun _ => Ca_c (pcM (sumR 3) 0 [anyM, pnM _]) _)) ?_;refine yG ?_;refine s_val (v_callD (fun _ => Any_c)) ?_;refine s_val (v_callD (fun _ => Any_c)) ?_;refine yZ ?_;refine s_val (v_callD (fun _ => PC_c (sumR 3) 0 [anyM, anyM])) ?_;refine Y30 ?_;refine Y30 ?_;refine s_val (v_callD (fun _ => N_c)) ?_;refine yZ ?_;refine s_val (v_callD (fun _ => bound_c v [u.1.ty, natY] (by omega) (by simp))) ?_;refine yM ?_;refine s_call (H t (v ++ [u.1.ty, natY]) a (m.f t (v ++ [u.1.ty]) a (lessM bs 2 (m.f (.pa u.1 .n) v a q.2 l).2.1).2 (m.f (.pa u.1 .n) v a q.2 l).2.2).2.1 _ _ (hu3 u.1) ha (by omega)) ?_;refine s_val (v_callD (fun _ => Ca_c (pcM (sumR 3) 0 [anyM, anyM]) _)) ?_;refine yZ ?_
      refine s_val (v_callD (fun _ => Ma_c _ [.mk (pcM (sumR 3) 0 [anyM, pnM _]) _, .mk (pcM (sumR 3) 0 [anyM, anyM]) _])) ?_;refine Y25 ?_;exact Tri.ret ⟨.inr rfl, ret1 rfl resV_cell (VImp.refl _), zO⟩
     ·skip
      rw [if_neg (fun e => by rw [e] at h4; simp at h4)];refine Tri.skip ?_;refine Y1 ?_;refine yG ?_;refine s_val (v_callD (fun _ => D_c (sumR 1) [])) ?_;refine Y21 ?_;refine s_call (H (.ba .b) v a q.2 l _ hv0 ha (by omega)) ?_;refine s_alloc SS 15 ?_;refine yS ?_;refine e_seqN [15] ?_;refine Y4 ?_;refine yG ?_;refine s_val (v_callD (fun _ => PC_c (sumR 1) 0 [])) ?_;refine Y30 ?_;refine Y21 ?_;refine s_call (H t v a (m.f (.ba .b) v a q.2 l).2.1 _ _ hv0 ha (by omega)) ?_;refine s_val (v_callD (fun _ => Ca_c (pcM (sumR 1) 0 []) _)) ?_;refine yG ?_;refine s_val (v_callD (fun _ => PC_c (sumR 1) 1 [])) ?_;refine Y30 ?_;refine Y21 ?_;refine s_call (H t v a (m.f t v a (m.f (.ba .b) v a q.2 l).2.1 (m.f (.ba .b) v a q.2 l).2.2).2.1 _ _ hv0 ha (by omega)) ?_;refine s_val (v_callD (fun _ => Ca_c (pcM (sumR 1) 1 []) _)) ?_;refine yZ ?_
      refine s_val (v_callD (fun _ => Ma_c _ [.mk (pcM (sumR 1) 0 []) _, .mk (pcM (sumR 1) 1 []) _])) ?_;refine Y25 ?_;exact Tri.ret ⟨.inr rfl, ret1 rfl resV_cell (VImp.refl _), zO⟩
end Go.Proofs.YtkcgkignhpepkaaGreatDoor

/- The maker's handlers. -/
namespace Go.Proofs.YtkcgkignhpepkaaGreatDoor
open Go Hs
theorem ab_inj (x y : AB) : (x.ref == y.ref) = decide (x = y) := by cases x <;> cases y <;> rfl
section
variable {G : List (Nat × TypeId × Pu)}
theorem index_c (a : List AB) (c : AB) (ha : a.length ≤ 40) : ∃ z : Int, (z ≥ 0 ↔ c ∈ a) ∧ FCall Tryz.prog G 244 [.pu (.sl 0 28 (sumsP a)), .pu (refP c.ref)] (iv .i64 z) := by
 have hal := sums_len a
 by_cases hm : c ∈ a
 ·obtain ⟨j, hj, hjc, hbef⟩ : ∃ j, ∃ h : j < a.length, a[j] = c ∧ ∀ i (hi : i < j), a[i]'(by omega) ≠ c := by
   obtain ⟨j, ⟨hj, hjc⟩, hmin⟩ := least (p := fun j => ∃ h : j < a.length, a[j] = c) (by obtain ⟨i, hi, e⟩ := List.getElem_of_mem hm; exact ⟨i, hi, e⟩)
   exact ⟨j, hj, hjc, fun i hi e => by have := hmin i ⟨by omega, e⟩; omega⟩
  refine ⟨j, by simp [hm], ?_⟩
  refine FCall.of_tri tbl 19 Tryz.func244 rfl rfl rfl fun w0 M ρ0 D0 => ?_
  refine yR ?_;refine s_box SS 3 ?_;refine yB ?_;refine e_seqN [3] ?_;refine Y62 ?_;refine Tri.block (Tri.loopW (σ := {i : Nat // i ≤ j}) (fun i => ⟨[(0, .pu (.sl 0 28 (sumsP a))), (3, .ptr 3 [] 28), (7, iv .i64 (sumsP a).length), (8, iv .i64 i.1)], [(3, .var 28 (.pu (refP c.ref)))]⟩) (fun i => j - i.1) ⟨0, Nat.zero_le _⟩ ?_ ?_ (fun i => ?_))
  ·exact zW
  ·exact zW
  refine Y31 ?_;refine Tri.cond rfl (fun h0 => ?_) (fun h0 => ?_)
  ·skip
   have hi : i.1 < a.length := by have := i.2; omega
   have hget : (sumsP a)[i.1]? = some (refP (a[i.1]).ref) := by simp [sumsP, hi]
   refine Tri.skip ?_;refine tQ ?_;refine Tri.block ?_;refine Y63 ?_;refine Y4 ?_;refine Y21 ?_;refine s_val (v_index SS (h0 := by omega) (hp := hget)) ?_;refine yL ?_;refine s_val (v_bin SS (h := bin_eqS ((ab_len c).trans (ab_len _).symm))) ?_;refine Y18 ?_;refine Tri.cond rfl (fun h1 => ?_) (fun h1 => ?_)
   ·skip
    have he : c = a[i.1] := of_decide_eq_true ((ab_inj c a[i.1]).symm.trans h1)
    have hij : i.1 = j := Decidable.byContradiction fun hne => hbef i.1 (by have := i.2; omega) he.symm
    refine Y1 ?_;refine Y2 ?_;exact Tri.ret ⟨.inr rfl, ret1 rfl resV_tmp (iv_imp (by rw [hij]))⟩
   ·skip
    have he : ¬ c = a[i.1] := of_decide_eq_false ((ab_inj c a[i.1]).symm.trans h1)
    have hn : i.1 + 1 ≤ j := Decidable.byContradiction fun hne => by
     have hij : i.1 = j := by have := i.2; omega
     apply he;rw [← hjc]
     congr 1
     exact hij.symm
    refine Tri.skip ?_;refine Y27 ?_
    refine ⟨⟨i.1 + 1, hn⟩, by show j - (i.1 + 1) < j - i.1; omega, le_of ?_ ?_⟩
    ·exact zE
    ·exact zH
  ·exfalso
   have := of_decide_eq_false h0
   have := i.2
   omega
 ·refine ⟨-1, by simp [hm], ?_⟩
  refine FCall.of_tri tbl 19 Tryz.func244 rfl rfl rfl fun w0 M ρ0 D0 => ?_
  refine yR ?_;refine s_box SS 3 ?_;refine yB ?_;refine e_seqN [3] ?_;refine Y62 ?_;refine Tri.block (Tri.loopW (σ := Nat) (fun i => ⟨[(0, .pu (.sl 0 28 (sumsP a))), (3, .ptr 3 [] 28), (7, iv .i64 (sumsP a).length), (8, iv .i64 i)], [(3, .var 28 (.pu (refP c.ref)))]⟩) (fun i => a.length - i) 0 ?_ ?_ (fun i => ?_))
  ·exact zW
  ·exact zW
  refine Y31 ?_;refine Tri.cond rfl (fun h0 => ?_) (fun h0 => ?_)
  ·skip
   have hi : i < a.length := by have := of_decide_eq_true h0; omega
   have hget : (sumsP a)[i]? = some (refP (a[i]).ref) := by simp [sumsP, hi]
   refine Tri.skip ?_;refine tQ ?_;refine Tri.block ?_;refine Y63 ?_;refine Y4 ?_;refine Y21 ?_;refine s_val (v_index SS (h0 := by omega) (hp := hget)) ?_;refine yL ?_;refine s_val (v_bin SS (h := bin_eqS ((ab_len c).trans (ab_len _).symm))) ?_;refine Y18 ?_;refine Tri.cond rfl (fun h1 => ?_) (fun h1 => ?_)
   ·exfalso
    have he : c = a[i] := of_decide_eq_true ((ab_inj c a[i]).symm.trans h1)
    exact hm (he ▸ List.getElem_mem hi)
   ·skip
    refine Tri.skip ?_;refine Y27 ?_
    refine ⟨i + 1, by omega, le_of ?_ ?_⟩
    ·exact zE
    ·exact zH
  ·skip
   refine Tri.exit ?_;refine Y8 ?_;exact Tri.ret ⟨.inr rfl, ret1 rfl resV_tmp (VImp.refl _)⟩
theorem contains_c (a : List AB) (c : AB) (ha : a.length ≤ 40) : FCall Tryz.prog G 226 [.pu (.sl 0 28 (sumsP a)), .pu (refP c.ref)] (bv (decide (c ∈ a))) := by
 obtain ⟨z, hz, hc⟩ := index_c (G := G) a c ha
 refine FCall.of_tri tbl 9 Tryz.func226 rfl rfl rfl fun w0 M ρ0 D0 => ?_
 refine yR ?_;refine s_box SS 3 ?_;refine yB ?_;refine e_seqN [3] ?_;refine Y32 ?_;refine s_val (v_callD (fun _ => hc)) ?_;refine yI ?_;refine Y2 ?_;exact Tri.ret ⟨.inr rfl, ret1 rfl resV_tmp (bv_imp (decide_eq_decide.2 hz))⟩
theorem HaX_c (r : List Int) (ks : List Tm) : FCall Tryz.prog G 37 [.pu (refP r), .xs 0 32 (tmsc 0 ks)] (.agg 32 [iv .i64 12, iv .i64 0, .pu (refP r), .xs 0 32 (tmsc 0 ks), .nilc]) := by
 refine FCall.of_tri tbl 8 Tryz.func37 rfl rfl rfl fun w0 M ρ0 D0 => ?_
 refine yR ?_;refine s_box SS 2 ?_;refine s_alloc SS 4 ?_;refine e_seqN [2, 4] ?_;refine Y4 ?_;refine yM ?_;refine Y41 ?_;exact Tri.ret ⟨.inr rfl, ret1 rfl resV_cell (VImp.refl _)⟩
end
end Go.Proofs.YtkcgkignhpepkaaGreatDoor

/- The maker's handlers, and the maker. -/
namespace Go.Proofs.YtkcgkignhpepkaaGreatDoor
open Go Hs
variable (bs : List Int) [hz : Bz bs] (m : Mk) [hm : Mc m] [hml : Ml m] (n : Nat)
theorem sums_app (a b : List AB) : sumsP (a ++ b) = sumsP a ++ sumsP b := by simp [sumsP]
theorem Le_c {G : List (Nat × TypeId × Pu)} (s t : Tm) : FCall Tryz.prog G 44 [.pu (tmc 0 s), .pu (tmc 0 t)] (.pu (tmc 0 (leM s t))) := by
 refine FCall.of_tri tbl 9 Tryz.func44 rfl rfl rfl fun w0 M ρ0 D0 => ?_
 refine yR ?_;refine s_box SS 2 ?_;refine s_box SS 3 ?_;refine s_alloc SS 4 ?_;refine e_seqN [2, 3, 4] ?_;refine Y36 ?_;refine yZ ?_;refine Y41 ?_;exact Tri.ret ⟨.inr rfl, ret1 rfl resV_cell (ToPu.imp (by repeat constructor))⟩
theorem hmany_le (c : AB) : (if c = .st then 2 else 1 : Nat) ≤ 2 := by split <;> omega
theorem abM_get {k : Int} (h : 0 ≤ k ∧ k < 3) : [refP (sumR 11), refP (sumR 12), refP (sumR 13)][k.toNat]? = some (refP (abM k).ref) := by
 obtain ⟨j, rfl⟩ := Int.eq_ofNat_of_zero_le h.1
 have hj : j < 3 := by omega
 rcases j with _ | _ | _ | j <;> first | rfl | omega
theorem fn_kind {t : TT} {k n : Int} {r : List Int} {ks : List Ty} (h : t.ty = .mk k n r ks) : (k == 3) = isFn t := by
 rcases t with (_ | _) | x | x | ⟨x, y⟩ | x <;> simp [TT.ty, BT.ty, natY] at h <;> obtain ⟨rfl, _⟩ := h <;> rfl
theorem clauses_len (t : TT) (v : List Ty) (a : List AB) (back : BT) (s : Sd) (l : Int) : ∀ i, (clausesM bs m t v a back s l i).1.length ≤ i
 | 0 => by simp [clausesM]
 | i + 1 => by
  have := clauses_len t v a back s l i
  simp [clausesM]; omega
set_option maxHeartbeats 4000000 in
theorem handle_c (H : TermC bs m n) (t : TT) (v : List Ty) (a : List AB) (hv : Vk v (n + 1)) (ha : a.length + (n + 1) ≤ 40) (s : Sd) (l : Int) {k : Int} [h : Bd s l k] [hl : Lt l n] (hk : k ≤ -1100) :
  HCall Tryz.prog gL 178 [.ptr 951 [] 174, .pu (tyc t.ty), .pu (.sl 0 58 (tysc v)), .pu (.sl 0 28 (sumsP a))] [] (mkO bs s l) (.pu (tmc 0 (handleMk bs m t v a s l).1)) (mkO bs (handleMk bs m t v a s l).2.1 (handleMk bs m t v a s l).2.2) [] := by
 obtain ⟨k', n', r', ks', hty⟩ : ∃ k n r ks, t.ty = .mk k n r ks := by rcases t.ty with ⟨a, b, c, d⟩; exact ⟨a, b, c, d, rfl⟩
 have hvl := hv.len
 have hal := sums_len a
 have hv0 : Vk v n := hv.less
 have hs1 (x : BT) : ysize x.ty ≤ 3 := bt_small x
 have hu1 (x : BT) : Vk (v ++ [x.ty]) n := hv.app (by simp) (by simp [hs1])
 have hu2 : Vk (v ++ [natY, lostY]) n := hv.app (by simp) (by simp [natY, lostY, ysize, ysizeL])
 have hu3 : Vk (v ++ [natY, lostY] ++ [t.ty]) n := by rw [List.append_assoc]; exact hv.app (by simp) (by simp [natY, lostY, ysize, ysizeL]; exact tt_small t)
 have hb3 := less_b bs s (n := 3) (by decide)
 obtain ⟨c, hc⟩ : ∃ c, c = abM (lessM bs 3 s).1 := ⟨_, rfl⟩
 have hcg := abM_get hb3
 rw [← hc] at hcg
 obtain ⟨q, hq⟩ : ∃ q, q = seldomM bs 4 (lessM bs 3 s).2 := ⟨_, rfl⟩
 have hbq : Bd q.2 l (k + 2) := hq ▸ Bd.mono (inferInstance : Bd (seldomM bs 4 (lessM bs 3 s).2).2 l (k + 1 + 1)) (by omega)
 have hty3 := fn_kind hty
 rw [hty]
 refine HCall.of_triD tbl 133 [950, 951] Tryz.func178 rfl rfl rfl fun w0 M ρ0 D0 => ?_
 simp only [handleMk, ← hc, ← hq]
 refine yR ?_;refine s_box SS 5 ?_;refine s_alloc SS 8 ?_;refine e_seqN [5, 8] ?_;refine Y40 ?_;refine yG ?_;refine yG ?_;refine yZ ?_;refine yM ?_;refine Y13 ?_;refine s_call (less_c bs 3 s (by omega)) ?_;refine s_val (v_indexx SS (h0 := hb3.1) (hp := hcg)) ?_;refine yL ?_;refine s_alloc SS 9 ?_;refine yS ?_;refine e_drawN [9] ?_;refine Y47 ?_;refine s_call (seldom_c bs 4 (lessM bs 3 s).2 (by omega)) ?_;refine Y15 ?_;refine Y24 ?_;refine e_seq ?_;rw [← hq];refine tQ ?_;refine Tri.cond rfl (fun h0 => ?_) (fun h0 => ?_)
 ·skip
  have hc0 : q.1 = true ∨ isFn t = true := by rw [hty3] at h0; simpa using h0
  rw [if_pos hc0];refine Y32 ?_;refine Y21 ?_;rw [← hty];refine s_call (made_c bs m n H t v a hv (by omega) q.2 l (by omega)) ?_;refine Y10 ?_;exact Tri.ret ⟨.inr rfl, ret1 rfl resV_cell (VImp.refl _), zO⟩
 ·skip
  have hc0 : ¬ (q.1 = true ∨ isFn t = true) := by rw [hty3] at h0; simpa using h0
  rw [if_neg hc0]
  obtain ⟨u, hu⟩ : ∃ u, u = plain0M bs q.2 := ⟨_, rfl⟩
  have hbu : Bd u.2 l (k + 3) := hu ▸ Bd.mono (inferInstance : Bd (plain0M bs q.2).2 l (k + 2 + 1)) (by omega)
  rw [← hu];refine Tri.skip ?_;refine Y47 ?_;refine s_call (plain0_c bs q.2 (by omega)) ?_;refine s_alloc SS 10 ?_;refine yS ?_;refine e_seqN [10] ?_;rw [← hu];refine Y63 ?_;refine Y32 ?_;refine s_val (v_callD (fun _ => contains_c a c (by omega))) ?_;refine yQ ?_;refine Y0 ?_;refine Tri.cutW (σ := {z : List AB // z = if c ∈ a then a else a ++ [c]}) (fun z => ⟨[(0, .ptr 951 [] 174), (2, .pu (.sl 0 58 (tysc v))), (3, .pu (.sl 0 28 (sumsP a))), (5, .ptr 5 [] 58), (8, .ptr 8 [] 32), (9, .ptr 9 [] 28), (10, .ptr 10 [] 58), (11, .pu (.sl 0 28 (sumsP z.1)))], [(5, .var 58 (.pu (tyc (.mk k' n' r' ks')))), (8, .var 32 (.agg 32 [iv .i64 0, iv .i64 0, .pu (refP Z32), .nilc, .nilc])), (9, .var 28 (.pu (refP c.ref))), (10, .var 58 (.pu (tyc u.1.ty)))] ++ mkO bs u.2 l⟩) ?_ (fun z => ?_)
  ·skip
   refine tQ ?_;refine Tri.cond rfl (fun h1 => ?_) (fun h1 => ?_)
   ·skip
    have hca : ¬ c ∈ a := by simpa using h1
    have hz0 : a ++ [c] = if c ∈ a then a else a ++ [c] := by rw [if_neg hca]
    have hz1 := sums_app a [c]
    refine Y1 ?_;refine s_callO (cloneS_c (sumsP a) (by omega)) ?_;refine Y56 ?_;refine s_appS ?_ ?_
    ·simp [sumsP]; omega
    refine yA ?_;refine e_draw ?_
    refine ⟨⟨_, hz0⟩, ?_, ?_⟩
    try rw [hz1]
    ·exact zW
    ·exact zW
   ·skip
    have hca : c ∈ a := by simpa using h1
    have hz0 : a = if c ∈ a then a else a ++ [c] := by rw [if_pos hca]
    refine Tri.skip ?_
    refine ⟨⟨_, hz0⟩, ?_, ?_⟩
    try rw [hz1]
    ·exact zW
    ·exact zW
  ·skip
   obtain ⟨z, hz⟩ := z
   dsimp only
   rw [← hz]
   have hzl : z.length + n ≤ 40 := by rw [hz]; split <;> (try simp) <;> omega
   obtain ⟨e, he⟩ : ∃ e, e = m.f (.ba u.1) v z u.2 l := ⟨_, rfl⟩
   have hbe : Bd e.2.1 e.2.2 (k + 103) := he ▸ Bd.mono (inferInstance : Bd (m.f (.ba u.1) v z u.2 l).2.1 (m.f (.ba u.1) v z u.2 l).2.2 (k + 3 + 100)) (by omega)
   have hle : Lt e.2.2 n := he ▸ inferInstance
   obtain ⟨g, hg⟩ : ∃ g, g = m.f t (v ++ [u.1.ty]) a e.2.1 e.2.2 := ⟨_, rfl⟩
   have hbg : Bd g.2.1 g.2.2 (k + 203) := hg ▸ Bd.mono (inferInstance : Bd (m.f t (v ++ [u.1.ty]) a e.2.1 e.2.2).2.1 (m.f t (v ++ [u.1.ty]) a e.2.1 e.2.2).2.2 (k + 103 + 100)) (by omega)
   have hlg : Lt g.2.2 n := hg ▸ inferInstance
   rw [← he, ← hg];refine Y4 ?_;refine Y30 ?_;refine Y21 ?_;refine s_call (H (.ba u.1) v z u.2 l _ hv0 hzl (by omega)) ?_;refine Y30 ?_;refine Y30 ?_;refine yZ ?_;rw [← he];refine s_val (v_callD (fun _ => bound_c v [u.1.ty] (by omega) (by simp))) ?_;refine yM ?_;rw [← hty];refine s_call (H t (v ++ [u.1.ty]) a e.2.1 e.2.2 _ (hu1 u.1) (by omega) (by omega)) ?_;rw [← hg];refine s_sl SS ?_;refine s_val (v_callD (fun _ => HaX_c c.ref [e.1, g.1])) ?_;refine s_alloc SS 12 ?_;refine yS ?_;refine e_drawN [12] ?_;refine yR ?_;refine s_val (v_callD (fun _ => N_c)) ?_;refine s_alloc SS 13 ?_;refine yS ?_;refine e_seqN [13] ?_;refine Y20 ?_
   obtain ⟨back, hback⟩ : ∃ b : BT, b = if c = .fl then .b else .n := ⟨_, rfl⟩
   obtain ⟨many, hmany⟩ : ∃ b : Nat, b = if c = .st then 2 else 1 := ⟨_, rfl⟩
   rw [← hback, ← hmany]
   have hbk (i : Nat) (hi : i ≤ many) : Bd (clausesM bs m t v a back g.2.1 g.2.2 i).2.1 (clausesM bs m t v a back g.2.1 g.2.2 i).2.2 (k + 807) := Bd.mono (clauses_bd bs m t v a back g.2.1 g.2.2 (k + 203) i) (by have h9 := hmany_le c; rw [← hmany] at h9; omega)
   have hlk (i : Nat) : Lt (clausesM bs m t v a back g.2.1 g.2.2 i).2.2 n := hlg.dn (clauses_dn bs m t v a back g.2.1 g.2.2 g.2.2 i)
   refine Y4 ?_;refine Y0 ?_;refine Tri.cutT ⟨[(0, .ptr 951 [] 174), (2, .pu (.sl 0 58 (tysc v))), (3, .pu (.sl 0 28 (sumsP a))), (5, .ptr 5 [] 58), (8, .ptr 8 [] 32), (12, .ptr 12 [] 32), (13, .ptr 13 [] 58), (14, iv .i64 many)], [(5, .var 58 (.pu (tyc t.ty))), (8, .var 32 (.agg 32 [iv .i64 0, iv .i64 0, .pu (refP Z32), .nilc, .nilc])), (12, .var 32 (.agg 32 [iv .i64 12, iv .i64 0, .pu (refP c.ref), .xs 0 32 (tmsc 0 [e.1, g.1]), .nilc])), (13, .var 58 (.pu (tyc back.ty)))] ++ mkO bs g.2.1 g.2.2⟩ ?_ ?_
   ·skip
    refine tQ ?_;refine Tri.block ?_;refine Y40 ?_;refine s_val (v_bin SS (h := bin_eqS (ab_len c))) ?_;refine Y2 ?_;refine Tri.cond rfl (fun h2 => ?_) (fun h2 => ?_)
    ·skip
     have hst : c = .st := of_decide_eq_true ((ab_st c).symm.trans h2)
     have hg2 : many = 2 := by rw [hmany, if_pos hst]
     have hg3 : back = .n := by rw [hback, if_neg (by rw [hst]; decide)]
     refine Y20 ?_;refine le_of ?_ ?_
     ·repeat (first | exact SubE.nil | refine SubE.cons rfl (by first | rfl | (rw [wrap64 (by omega) (by omega)]; rfl) | (first | (rw [hty]; done) | (rw [hg2]; rfl) | (rw [hg3]; rfl))) ?_)
     ·repeat (first | exact SubH.nil | refine SubH.cons rfl (by first | rfl | (rw [wrap64 (by omega) (by omega)]; rfl) | (first | (rw [hty]; done) | (rw [hg2]; rfl) | (rw [hg3]; rfl))) ?_)
    ·skip
     have hst : ¬ c = .st := of_decide_eq_false ((ab_st c).symm.trans h2)
     have hg2 : many = 1 := by rw [hmany, if_neg hst]
     refine Y40 ?_;refine s_val (v_bin SS (h := bin_eqS (ab_len c))) ?_;refine Y2 ?_;refine Tri.cond rfl (fun h3 => ?_) (fun h3 => ?_)
     ·skip
      have hfl : c = .fl := of_decide_eq_true ((ab_inj c .fl).symm.trans h3)
      have hg3 : back = .b := by rw [hback, if_pos hfl]
      refine Y40 ?_;refine s_val (v_callD (fun _ => D_c (sumR 1) [])) ?_;refine Y17 ?_;refine le_of ?_ ?_
      ·repeat (first | exact SubE.nil | refine SubE.cons rfl (by first | rfl | (rw [wrap64 (by omega) (by omega)]; rfl) | (first | (rw [hty]; done) | (rw [hg2]; rfl) | (rw [hg3]; rfl))) ?_)
      ·repeat (first | exact SubH.nil | refine SubH.cons rfl (by first | rfl | (rw [wrap64 (by omega) (by omega)]; rfl) | (first | (rw [hty]; done) | (rw [hg2]; rfl) | (rw [hg3]; rfl))) ?_)
     ·skip
      have hfl : ¬ c = .fl := of_decide_eq_false ((ab_inj c .fl).symm.trans h3)
      have hg3 : back = .n := by rw [hback, if_neg hfl]
      refine Tri.skip ?_;refine le_of ?_ ?_
      ·repeat (first | exact SubE.nil | refine SubE.cons rfl (by first | rfl | (rw [wrap64 (by omega) (by omega)]; rfl) | (first | (rw [hty]; done) | (rw [hg2]; rfl) | (rw [hg3]; rfl))) ?_)
      ·repeat (first | exact SubH.nil | refine SubH.cons rfl (by first | rfl | (rw [wrap64 (by omega) (by omega)]; rfl) | (first | (rw [hty]; done) | (rw [hg2]; rfl) | (rw [hg3]; rfl))) ?_)
   ·skip
    refine Y1 ?_;refine Y33 ?_;refine Tri.block (Tri.loopW (σ := {i : Nat // i ≤ many}) (fun i => ⟨[(0, .ptr 951 [] 174), (2, .pu (.sl 0 58 (tysc v))), (3, .pu (.sl 0 28 (sumsP a))), (5, .ptr 5 [] 58), (8, .ptr 8 [] 32), (12, .ptr 12 [] 32), (13, .ptr 13 [] 58), (84, iv .i64 many), (85, iv .i64 i.1)], [(5, .var 58 (.pu (tyc t.ty))), (8, .var 32 (.agg 32 [iv .i64 0, iv .i64 0, .pu (refP Z32), .nilc, .nilc])), (12, .var 32 (.agg 32 [iv .i64 12, iv .i64 0, .pu (refP c.ref), .ow 0 32 (tmsc 0 (e.1 :: g.1 :: (clausesM bs m t v a back g.2.1 g.2.2 i.1).1)), .nilc])), (13, .var 58 (.pu (tyc back.ty)))] ++ mkO bs (clausesM bs m t v a back g.2.1 g.2.2 i.1).2.1 (clausesM bs m t v a back g.2.1 g.2.2 i.1).2.2⟩) (fun i => many - i.1) ⟨0, Nat.zero_le _⟩ ?_ ?_ (fun i => ?_))
    ·exact zW
    ·exact zW
    refine Y31 ?_;refine Tri.cond rfl (fun h4 => ?_) (fun h4 => ?_)
    ·skip
     have hi : i.1 < many := by have := of_decide_eq_true h4; omega
     have hbp := hbk i.1 i.2
     have hlp := hlk i.1
     have hstep : clausesM bs m t v a back g.2.1 g.2.2 (i.1 + 1) = ((clausesM bs m t v a back g.2.1 g.2.2 i.1).1 ++ [(clauseM bs m t v a back (clausesM bs m t v a back g.2.1 g.2.2 i.1).2.1 (clausesM bs m t v a back g.2.1 g.2.2 i.1).2.2).1], (clauseM bs m t v a back (clausesM bs m t v a back g.2.1 g.2.2 i.1).2.1 (clausesM bs m t v a back g.2.1 g.2.2 i.1).2.2).2) := rfl
     have hzsl : (clausesM bs m t v a back g.2.1 g.2.2 i.1).1.length ≤ i.1 := clauses_len bs m t v a back g.2.1 g.2.2 i.1
     have hmany2 : many ≤ 2 := by rw [hmany]; split <;> omega
     generalize clausesM bs m t v a back g.2.1 g.2.2 i.1 = p at hbp hlp hstep hzsl ⊢
     obtain ⟨zs, s0, l0⟩ := p
     simp only at hbp hlp hstep hzsl ⊢
     obtain ⟨f, hf⟩ : ∃ f, f = m.f t (v ++ [natY, lostY]) a s0 l0 := ⟨_, rfl⟩
     have hbf : Bd f.2.1 f.2.2 (k + 907) := hf ▸ Bd.mono (inferInstance : Bd (m.f t (v ++ [natY, lostY]) a s0 l0).2.1 (m.f t (v ++ [natY, lostY]) a s0 l0).2.2 (k + 807 + 100)) (by omega)
     have hlf : Lt f.2.2 n := hf ▸ inferInstance
     obtain ⟨x, hx⟩ : ∃ x, x = seldomM bs 3 f.2.1 := ⟨_, rfl⟩
     have hbx : Bd x.2 f.2.2 (k + 908) := hx ▸ Bd.mono (inferInstance : Bd (seldomM bs 3 f.2.1).2 f.2.2 (k + 907 + 1)) (by omega)
     simp only [clauseM, ← hf, ← hx] at hstep
     refine Tri.skip ?_;refine tQ ?_;refine Tri.block ?_;refine Y1 ?_;refine s_val (v_callD (fun _ => N_c)) ?_;refine s_val (v_callD (fun _ => none_c)) ?_;refine yZ ?_;refine s_val (v_callD (fun _ => bound_c v [natY, lostY] (by omega) (by simp))) ?_;refine Y14 ?_;refine Y32 ?_;refine Y21 ?_;refine s_call (H t (v ++ [natY, lostY]) a s0 l0 _ hu2 (by omega) (by omega)) ?_;refine s_alloc SS 16 ?_;refine yS ?_;refine e_seqN [16] ?_;rw [← hf];refine Y47 ?_;refine s_call (seldom_c bs 3 f.2.1 (by omega)) ?_;refine yQ ?_;refine e_seq ?_;rw [← hx];refine tQ ?_
     refine Tri.cutW (σ := {y : Tm × Sd × Int // Bd y.2.1 y.2.2 (k + 1008) ∧ Lt y.2.2 n ∧ clausesM bs m t v a back g.2.1 g.2.2 (i.1 + 1) = (zs ++ [if (seldomM bs 4 y.2.1).1 = true then leM y.1 (m.f t (v ++ [natY, lostY] ++ [t.ty]) a (seldomM bs 4 y.2.1).2 y.2.2).1 else y.1], if (seldomM bs 4 y.2.1).1 = true then (m.f t (v ++ [natY, lostY] ++ [t.ty]) a (seldomM bs 4 y.2.1).2 y.2.2).2 else ((seldomM bs 4 y.2.1).2, y.2.2))}) (fun y => ⟨[(0, .ptr 951 [] 174), (2, .pu (.sl 0 58 (tysc v))), (3, .pu (.sl 0 28 (sumsP a))), (5, .ptr 5 [] 58), (8, .ptr 8 [] 32), (12, .ptr 12 [] 32), (13, .ptr 13 [] 58), (15, .pu (.sl 0 58 (tysc (v ++ [natY, lostY])))), (16, .ptr 16 [] 32), (84, iv .i64 many), (85, iv .i64 i.1)], [(5, .var 58 (.pu (tyc t.ty))), (8, .var 32 (.agg 32 [iv .i64 0, iv .i64 0, .pu (refP Z32), .nilc, .nilc])), (12, .var 32 (.agg 32 [iv .i64 12, iv .i64 0, .pu (refP c.ref), .ow 0 32 (tmsc 0 (e.1 :: g.1 :: zs)), .nilc])), (13, .var 58 (.pu (tyc back.ty))), (16, .var 32 (.pu (tmc 0 y.1.1)))] ++ mkO bs y.1.2.1 y.1.2.2⟩) ?_ (fun y => ?_)
     ·skip
      refine tQ ?_;refine Tri.cond rfl (fun h5 => ?_) (fun h5 => ?_)
      ·skip
       have hx5 : x.1 = false := by simpa using h5
       have hy : Bd (m.f (.ba back) (v ++ [natY, lostY]) a x.2 f.2.2).2.1 (m.f (.ba back) (v ++ [natY, lostY]) a x.2 f.2.2).2.2 (k + 1008) ∧ Lt (m.f (.ba back) (v ++ [natY, lostY]) a x.2 f.2.2).2.2 n := ⟨Bd.mono (inferInstance : Bd (m.f (.ba back) (v ++ [natY, lostY]) a x.2 f.2.2).2.1 (m.f (.ba back) (v ++ [natY, lostY]) a x.2 f.2.2).2.2 (k + 908 + 100)) (by omega), inferInstance⟩
       rw [if_pos hx5] at hstep
       refine yR ?_;refine s_val (v_callD (fun _ => Va_c 0)) ?_;refine Y30 ?_;refine Y21 ?_;refine s_call (H (.ba back) (v ++ [natY, lostY]) a x.2 f.2.2 _ hu2 (by omega) (by omega)) ?_;refine s_val (v_callD (fun _ => Ap_c _ _)) ?_;refine yS ?_;refine e_draw ?_
       first | refine ⟨⟨(apM (vaM 0) (m.f (.ba back) (v ++ [natY, lostY]) a x.2 f.2.2).1, (m.f (.ba back) (v ++ [natY, lostY]) a x.2 f.2.2).2.1, (m.f (.ba back) (v ++ [natY, lostY]) a x.2 f.2.2).2.2), hy.1, hy.2, ?_⟩, ?_, ?_⟩ | refine ⟨⟨(f.1, x.2, f.2.2), hy.1, hy.2, ?_⟩, ?_, ?_⟩
       ·rw [hstep]
        split <;> rfl
       ·exact zW
       ·exact zW
      ·skip
       have hx5 : ¬ x.1 = false := by simpa using h5
       have hy : Bd x.2 f.2.2 (k + 1008) ∧ Lt f.2.2 n := ⟨Bd.mono hbx (by omega), hlf⟩
       rw [if_neg hx5] at hstep
       refine Tri.skip ?_
       first | refine ⟨⟨(apM (vaM 0) (m.f (.ba back) (v ++ [natY, lostY]) a x.2 f.2.2).1, (m.f (.ba back) (v ++ [natY, lostY]) a x.2 f.2.2).2.1, (m.f (.ba back) (v ++ [natY, lostY]) a x.2 f.2.2).2.2), hy.1, hy.2, ?_⟩, ?_, ?_⟩ | refine ⟨⟨(f.1, x.2, f.2.2), hy.1, hy.2, ?_⟩, ?_, ?_⟩
       ·rw [hstep]
        split <;> rfl
       ·exact zW
       ·exact zW
     ·skip
      obtain ⟨⟨b, s1, l1⟩, hb1, hl1, hst1⟩ := y
      simp only at hb1 hl1 hst1 ⊢
      obtain ⟨w, hw⟩ : ∃ w, w = seldomM bs 4 s1 := ⟨_, rfl⟩
      have hbw : Bd w.2 l1 (k + 1009) := hw ▸ Bd.mono (inferInstance : Bd (seldomM bs 4 s1).2 l1 (k + 1008 + 1)) (by omega)
      rw [← hw] at hst1
      refine Y47 ?_;refine s_call (seldom_c bs 4 s1 (by omega)) ?_;refine e_seq ?_;rw [← hw];refine tQ ?_;refine Tri.cond rfl (fun h6 => ?_) (fun h6 => ?_)
      ·skip
       rw [if_pos h6, if_pos h6] at hst1
       have hts : tmsc 0 (e.1 :: g.1 :: (clausesM bs m t v a back g.2.1 g.2.2 (i.1 + 1)).1) = tmsc 0 (e.1 :: g.1 :: zs) ++ [tmc 0 (leM b (m.f t (v ++ [natY, lostY] ++ [t.ty]) a w.2 l1).1)] := by rw [hst1]; exact tms_app (e.1 :: g.1 :: zs) [_]
       refine Y4 ?_;refine Y30 ?_;refine Y30 ?_;refine yZ ?_;refine s_val (v_callD (fun _ => bound_c (v ++ [natY, lostY]) [t.ty] (by simp; omega) (by simp))) ?_;refine yM ?_;refine s_call (H t (v ++ [natY, lostY] ++ [t.ty]) a w.2 l1 _ hu3 (by omega) (by omega)) ?_;refine s_val (v_callD (fun _ => Le_c _ _)) ?_;refine yS ?_;refine e_draw ?_;refine Y23 ?_;refine Y56 ?_;refine s_app2 12 [3] ?_ ?_
       ·simp [tms_eq]; omega
       refine yF ?_;refine yW ?_;refine e_seq ?_;refine Y27 ?_
       refine ⟨⟨i.1 + 1, hi⟩, by show many - (i.1 + 1) < many - i.1; omega, le_of ?_ ?_⟩
       ·repeat (first | exact SubE.nil | refine SubE.cons rfl (by first | rfl | (rw [wrap64 (by omega) (by omega)]; rfl) | (first | (rw [hts]; rfl) | (rw [hst1]; done) | (rw [hst1]; rfl))) ?_)
       ·repeat (first | exact SubH.nil | refine SubH.cons rfl (by first | rfl | (rw [wrap64 (by omega) (by omega)]; rfl) | (first | (rw [hts]; rfl) | (rw [hst1]; done) | (rw [hst1]; rfl))) ?_)
      ·skip
       rw [if_neg (by rw [h6]; decide), if_neg (by rw [h6]; decide)] at hst1
       have hts : tmsc 0 (e.1 :: g.1 :: (clausesM bs m t v a back g.2.1 g.2.2 (i.1 + 1)).1) = tmsc 0 (e.1 :: g.1 :: zs) ++ [tmc 0 b] := by rw [hst1]; exact tms_app (e.1 :: g.1 :: zs) [_]
       refine Tri.skip ?_;refine Y23 ?_;refine Y56 ?_;refine s_app2 12 [3] ?_ ?_
       ·simp [tms_eq]; omega
       refine yF ?_;refine yW ?_;refine e_seq ?_;refine Y27 ?_
       refine ⟨⟨i.1 + 1, hi⟩, by show many - (i.1 + 1) < many - i.1; omega, le_of ?_ ?_⟩
       ·repeat (first | exact SubE.nil | refine SubE.cons rfl (by first | rfl | (rw [wrap64 (by omega) (by omega)]; rfl) | (first | (rw [hts]; rfl) | (rw [hst1]; done) | (rw [hst1]; rfl))) ?_)
       ·repeat (first | exact SubH.nil | refine SubH.cons rfl (by first | rfl | (rw [wrap64 (by omega) (by omega)]; rfl) | (first | (rw [hts]; rfl) | (rw [hst1]; done) | (rw [hst1]; rfl))) ?_)
    ·skip
     have hi : i.1 = many := by have := of_decide_eq_false h4; have := i.2; omega
     rw [hi];refine Tri.exit ?_;refine Y57 ?_;exact Tri.ret ⟨.inr rfl, ret1 rfl resV_cell (ToPu.imp (by repeat constructor)), zO⟩
end Go.Proofs.YtkcgkignhpepkaaGreatDoor

/- The maker of terms of types. -/
namespace Go.Proofs.YtkcgkignhpepkaaGreatDoor
open Go Hs
variable (bs : List Int) [hz : Bz bs]
theorem Bd.low {s : Sd} {l k : Int} (h : Bd s l k) (hk : k ≤ 0) : -4611686018427387904 ≤ l := by have := h.h; omega
theorem term0_c : TermC bs (termMk bs 0) 0 := by
 intro t v a s l k h hl hv ha hk
 have hlow := h.low hk
 have hll := hl.h
 have hwl : IntKind.i64.wrap (l - 1) = l - 1 := wrap64 (by omega) (by omega)
 have hb1 : Bd s (l - 1) (k + 1) := h.dec
 have hvl := hv.len
 refine HCall.of_triD tbl 117 [950, 951] Tryz.func111 rfl rfl rfl fun w0 M ρ0 D0 => ?_
 show Tri _ _ _ _ _
 simp only [termMk]
 refine yR ?_;refine s_box SS 5 ?_;refine s_alloc SS 8 ?_;refine e_seqN [5, 8] ?_;refine Y47 ?_;refine yI ?_;refine Y50 ?_;refine Y17 ?_;rw [hwl];refine Y47 ?_;refine Y45 ?_;refine Tri.cond rfl (fun h0 => ?_) (fun h0 => ?_)
 ·skip
  refine Y32 ?_;refine yM ?_;refine s_call (leaf_c bs t v (by omega) hv.sm s (l - 1) (by omega)) ?_;refine Y10 ?_;exact Tri.ret ⟨.inr rfl, ret1 rfl resV_cell (VImp.refl _), zO⟩
 ·exfalso
  have := of_decide_eq_false h0
  omega
set_option maxHeartbeats 2000000 in
theorem termS_c (n : Nat) (H : TermC bs (termMk bs n) n) : TermC bs (termMk bs (n + 1)) (n + 1) := by
 intro t v a s l k h hl hv ha hk
 have hlow := h.low hk
 have hll := hl.h
 have hwl : IntKind.i64.wrap (l - 1) = l - 1 := wrap64 (by omega) (by omega)
 have hb1 : Bd s (l - 1) (k + 1) := h.dec
 have hvl := hv.len
 have hv0 : Vk v n := hv.less
 have hts := tt_small
 have hu1 (x : TT) : Vk (v ++ [x.ty]) n := hv.app (by simp) (by simp; exact tt_small x)
 refine HCall.of_triD tbl 117 [950, 951] Tryz.func111 rfl rfl rfl fun w0 M ρ0 D0 => ?_
 show Tri _ _ _ _ _
 simp only [termMk]
 refine yR ?_;refine s_box SS 5 ?_;refine s_alloc SS 8 ?_;refine e_seqN [5, 8] ?_;refine Y47 ?_;refine yI ?_;refine Y50 ?_;refine Y17 ?_;rw [hwl];refine Y47 ?_;refine Y45 ?_;refine Tri.cond rfl (fun h0 => ?_) (fun h0 => ?_)
 ·skip
  rw [if_pos (of_decide_eq_true h0)];refine Y32 ?_;refine yM ?_;refine s_call (leaf_c bs t v (by omega) hv.sm s (l - 1) (by omega)) ?_;refine Y10 ?_;exact Tri.ret ⟨.inr rfl, ret1 rfl resV_cell (VImp.refl _), zO⟩
 ·skip
  have g0 := of_decide_eq_false h0
  rw [if_neg g0]
  simp only [nodeM]
  obtain ⟨y, hy⟩ : ∃ y, y = l - 1 := ⟨_, rfl⟩
  rw [← hy]
  have hbd : Bd s y (k - 2001) := hy ▸ h.down (by omega)
  have hly : Lt y n := ⟨by push_cast at hll; omega⟩
  obtain ⟨q, hq⟩ : ∃ q, q = lessM bs 10 s := ⟨_, rfl⟩
  have hbq : Bd q.2 y (k - 2000) := hq ▸ Bd.mono (inferInstance : Bd (lessM bs 10 s).2 y (k - 2001 + 1)) (by omega)
  have hqb := less_b bs s (n := 10) (by decide)
  rw [← hq] at hqb ⊢
  obtain ⟨m, hm⟩ : ∃ m, m = termMk bs n := ⟨_, rfl⟩
  have hmc : Mc m := hm ▸ inferInstance
  have hml : Ml m := hm ▸ inferInstance
  rw [← hm] at H ⊢
  refine Tri.skip ?_;refine Y47 ?_;refine s_call (less_c bs 10 s (by omega)) ?_;refine e_seq ?_;rw [← hq];refine tQ ?_;refine Tri.block ?_;refine Y12 ?_;refine Tri.cutT ⟨[(0, .ptr 951 [] 174), (2, .pu (.sl 0 58 (tysc v))), (3, .pu (.sl 0 28 (sumsP a))), (5, .ptr 5 [] 58), (8, .ptr 8 [] 32), (35, iv .i64 q.1), (36, bv (decide (q.1 < 2)))], [(5, .var 58 (.pu (tyc t.ty))), (8, .var 32 (.agg 32 [iv .i64 0, iv .i64 0, .pu (refP Z32), .nilc, .nilc]))] ++ mkO bs q.2 y⟩ ?_ ?_
  ·skip
   refine tQ ?_;refine Tri.cond rfl (fun h1 => ?_) (fun h1 => ?_)
   ·skip
    have hx1 : (q.1 == 0) = decide (q.1 < 2) := by have := eq_of_beq h1; rw [this]; rfl
    refine Tri.skip ?_;refine le_of ?_ ?_
    ·repeat (first | exact SubE.nil | refine SubE.cons rfl (by first | rfl | (rw [wrap64 (by omega) (by omega)]; rfl) | (exact congrArg bv hx1)) ?_)
    ·repeat (first | exact SubH.nil | refine SubH.cons rfl (by first | rfl | (rw [wrap64 (by omega) (by omega)]; rfl) | (exact congrArg bv hx1)) ?_)
   ·skip
    have hx1 : (q.1 == 1) = decide (q.1 < 2) := by
     have g1 : ¬ q.1 = 0 := by simpa using h1
     rw [Bool.eq_iff_iff, beq_iff_eq, decide_eq_true_iff]
     omega
    refine Y5 ?_;refine Y14 ?_;refine le_of ?_ ?_
    ·repeat (first | exact SubE.nil | refine SubE.cons rfl (by first | rfl | (rw [wrap64 (by omega) (by omega)]; rfl) | (exact congrArg bv hx1)) ?_)
    ·repeat (first | exact SubH.nil | refine SubH.cons rfl (by first | rfl | (rw [wrap64 (by omega) (by omega)]; rfl) | (exact congrArg bv hx1)) ?_)
  ·skip
   refine tQ ?_;refine Tri.cond rfl (fun h2 => ?_) (fun h2 => ?_)
   ·skip
    rw [if_pos (of_decide_eq_true h2)]
    obtain ⟨x, hx⟩ : ∃ x, x = heldM bs v t.ty q.2 := ⟨_, rfl⟩
    have hbx : Bd x.2 y (k - 1999) := hx ▸ Bd.mono (inferInstance : Bd (heldM bs v t.ty q.2).2 y (k - 2000 + 1)) (by omega)
    rw [← hx];refine Y32 ?_;refine yM ?_;refine s_call (held_c bs v (by omega) hv.sm t.ty (tt_small t) q.2 y (by omega)) ?_;refine Y46 ?_;refine s_alloc SS 9 ?_;refine Y48 ?_;refine e_seqN [9] ?_;rw [← hx];refine Y1 ?_;refine Y0 ?_;refine Tri.cond rfl (fun h3 => ?_) (fun h3 => ?_)
    ·skip
     rw [if_pos h3];refine Y57 ?_;exact Tri.ret ⟨.inr rfl, ret1 rfl resV_cell (VImp.refl _), zO⟩
    ·skip
     rw [if_neg (by rw [h3]; decide)]
     obtain ⟨s9, hs9⟩ : ∃ s9, s9 = x.2 := ⟨_, rfl⟩
     obtain ⟨l9, hl9⟩ : ∃ l9, l9 = y := ⟨_, rfl⟩
     have hb9 : Bd s9 l9 (k - 1000) := hs9 ▸ hl9 ▸ Bd.mono hbx (by omega)
     have hlt9 : Lt l9 n := hl9 ▸ hly
     rw [← hs9, ← hl9];refine Tri.skip ?_;refine Y32 ?_;refine Y21 ?_;refine s_call (made_c bs m n H t v a hv (by omega) s9 l9 (by omega)) ?_;refine Y10 ?_;exact Tri.ret ⟨.inr rfl, ret1 rfl resV_cell (VImp.refl _), zO⟩
   ·skip
    rw [if_neg (of_decide_eq_false h2)];refine Y12 ?_;refine Tri.cond rfl (fun h4 => ?_) (fun h4 => ?_)
    ·skip
     rw [if_pos (eq_of_beq h4)]
     obtain ⟨u, hu⟩ : ∃ u, u = someM bs q.2 := ⟨_, rfl⟩
     have hbu : Bd u.2 y (k - 1996) := hu ▸ Bd.mono (inferInstance : Bd (someM bs q.2).2 y (k - 2000 + 4)) (by omega)
     rw [← hu];refine Y1 ?_;refine s_call (some_c bs q.2 y (by omega)) ?_;refine s_alloc SS 11 ?_;refine yS ?_;refine e_seqN [11] ?_;rw [← hu];refine Y32 ?_;refine Y21 ?_;refine s_call (H u.1 v a u.2 y _ hv0 (by omega) (by omega)) ?_;refine Y30 ?_;refine Y30 ?_;refine yZ ?_;refine s_val (v_callD (fun _ => bound_c v [u.1.ty] (by omega) (by simp))) ?_;refine yM ?_;refine s_call (H t (v ++ [u.1.ty]) a (m.f u.1 v a u.2 y).2.1 _ _ (hu1 u.1) (by omega) (by omega)) ?_;refine s_val (v_callD (fun _ => Le_c _ _)) ?_;refine Y25 ?_;exact Tri.ret ⟨.inr rfl, ret1 rfl resV_cell (VImp.refl _), zO⟩
    ·skip
     have g4 : ¬ q.1 = 2 := by simpa using h4
     rw [if_neg g4];refine Y12 ?_;refine Tri.cond rfl (fun h5 => ?_) (fun h5 => ?_)
     ·skip
      rw [if_pos (eq_of_beq h5)]
      obtain ⟨u, hu⟩ : ∃ u, u = someM bs q.2 := ⟨_, rfl⟩
      have hbu : Bd u.2 y (k - 1996) := hu ▸ Bd.mono (inferInstance : Bd (someM bs q.2).2 y (k - 2000 + 4)) (by omega)
      rw [← hu];refine Y1 ?_;refine s_call (some_c bs q.2 y (by omega)) ?_;refine s_alloc SS 12 ?_;refine yS ?_;refine e_seqN [12] ?_;rw [← hu];refine Y32 ?_;refine Y30 ?_;refine yZ ?_;refine s_val (v_callD (fun _ => bound_c v [u.1.ty] (by omega) (by simp))) ?_;refine yM ?_;refine s_call (H t (v ++ [u.1.ty]) a u.2 y _ (hu1 u.1) (by omega) (by omega)) ?_;refine s_val (v_callD (fun _ => La_c _)) ?_;refine Y30 ?_;refine Y21 ?_;refine s_call (H u.1 v a (m.f t (v ++ [u.1.ty]) a u.2 y).2.1 _ _ hv0 (by omega) (by omega)) ?_;refine s_val (v_callD (fun _ => Ap_c _ _)) ?_;refine Y25 ?_;exact Tri.ret ⟨.inr rfl, ret1 rfl resV_cell (VImp.refl _), zO⟩
     ·skip
      have g5 : ¬ q.1 = 3 := by simpa using h5
      rw [if_neg g5];refine Y12 ?_;refine Tri.cutT ⟨[(0, .ptr 951 [] 174), (2, .pu (.sl 0 58 (tysc v))), (3, .pu (.sl 0 28 (sumsP a))), (5, .ptr 5 [] 58), (8, .ptr 8 [] 32), (35, iv .i64 q.1), (85, bv (decide (q.1 < 6)))], [(5, .var 58 (.pu (tyc t.ty))), (8, .var 32 (.agg 32 [iv .i64 0, iv .i64 0, .pu (refP Z32), .nilc, .nilc]))] ++ mkO bs q.2 y⟩ ?_ ?_
      ·skip
       refine tQ ?_;refine Tri.cond rfl (fun h6 => ?_) (fun h6 => ?_)
       ·skip
        have hx6 : (q.1 == 4) = decide (q.1 < 6) := by have := eq_of_beq h6; rw [this]; rfl
        refine Tri.skip ?_;refine le_of ?_ ?_
        ·repeat (first | exact SubE.nil | refine SubE.cons rfl (by first | rfl | (rw [wrap64 (by omega) (by omega)]; rfl) | (exact congrArg bv hx6)) ?_)
        ·repeat (first | exact SubH.nil | refine SubH.cons rfl (by first | rfl | (rw [wrap64 (by omega) (by omega)]; rfl) | (exact congrArg bv hx6)) ?_)
       ·skip
        have hx6 : (q.1 == 5) = decide (q.1 < 6) := by
         have g6 : ¬ q.1 = 4 := by simpa using h6
         have g2 := of_decide_eq_false h2
         rw [Bool.eq_iff_iff, beq_iff_eq, decide_eq_true_iff]
         omega
        refine Y5 ?_;refine Y14 ?_;refine le_of ?_ ?_
        ·repeat (first | exact SubE.nil | refine SubE.cons rfl (by first | rfl | (rw [wrap64 (by omega) (by omega)]; rfl) | (exact congrArg bv hx6)) ?_)
        ·repeat (first | exact SubH.nil | refine SubH.cons rfl (by first | rfl | (rw [wrap64 (by omega) (by omega)]; rfl) | (exact congrArg bv hx6)) ?_)
      ·skip
       refine tQ ?_;refine Tri.cond rfl (fun h7 => ?_) (fun h7 => ?_)
       ·skip
        rw [if_pos (of_decide_eq_true h7)];refine Y32 ?_;refine Y21 ?_;refine s_call (match_c bs m n H t v a hv (by omega) q.2 y (by omega)) ?_;refine Y10 ?_;exact Tri.ret ⟨.inr rfl, ret1 rfl resV_cell (VImp.refl _), zO⟩
       ·skip
        rw [if_neg (of_decide_eq_false h7)];refine Y12 ?_;refine Tri.cond rfl (fun h8 => ?_) (fun h8 => ?_)
        ·skip
         rw [if_pos (eq_of_beq h8)]
         obtain ⟨x, hx⟩ : ∃ x, x = askMk bs m t v a q.2 y := ⟨_, rfl⟩
         have hbx : Bd x.2.1 x.2.2 (k - 1898) := hx ▸ Bd.mono (inferInstance : Bd (askMk bs m t v a q.2 y).2.1 (askMk bs m t v a q.2 y).2.2 (k - 2000 + 102)) (by omega)
         have hlx : Lt x.2.2 n := hx ▸ hly.dn (inferInstance : Dn (askMk bs m t v a q.2 y).2.2 y)
         rw [← hx];refine Y32 ?_;refine Y21 ?_;refine s_call (ask_c bs m n H t v a hv0 (by omega) q.2 y (by omega)) ?_;refine Y46 ?_;refine s_alloc SS 13 ?_;refine Y48 ?_;refine e_seqN [13] ?_;rw [← hx];refine Y1 ?_;refine Y0 ?_;refine Tri.cond rfl (fun h9 => ?_) (fun h9 => ?_)
         ·skip
          rw [if_pos h9];refine Y57 ?_;exact Tri.ret ⟨.inr rfl, ret1 rfl resV_cell (VImp.refl _), zO⟩
         ·skip
          rw [if_neg (by rw [h9]; decide)]
          obtain ⟨s9, hs9⟩ : ∃ s9, s9 = x.2.1 := ⟨_, rfl⟩
          obtain ⟨l9, hl9⟩ : ∃ l9, l9 = x.2.2 := ⟨_, rfl⟩
          have hb9 : Bd s9 l9 (k - 1000) := hs9 ▸ hl9 ▸ Bd.mono hbx (by omega)
          have hlt9 : Lt l9 n := hl9 ▸ hlx
          rw [← hs9, ← hl9];refine Tri.skip ?_;refine Y32 ?_;refine Y21 ?_;refine s_call (made_c bs m n H t v a hv (by omega) s9 l9 (by omega)) ?_;refine Y10 ?_;exact Tri.ret ⟨.inr rfl, ret1 rfl resV_cell (VImp.refl _), zO⟩
        ·skip
         have g8 : ¬ q.1 = 6 := by simpa using h8
         rw [if_neg g8];refine Y12 ?_;refine Tri.cond rfl (fun h10 => ?_) (fun h10 => ?_)
         ·skip
          rw [if_pos (eq_of_beq h10)];refine Y32 ?_;refine Y21 ?_;refine s_call (handle_c bs m n H t v a hv (by omega) q.2 y (by omega)) ?_;refine Y10 ?_;exact Tri.ret ⟨.inr rfl, ret1 rfl resV_cell (VImp.refl _), zO⟩
         ·skip
          have g10 : ¬ q.1 = 7 := by simpa using h10
          rw [if_neg g10]
          obtain ⟨s9, hs9⟩ : ∃ s9, s9 = q.2 := ⟨_, rfl⟩
          obtain ⟨l9, hl9⟩ : ∃ l9, l9 = y := ⟨_, rfl⟩
          have hb9 : Bd s9 l9 (k - 1000) := hs9 ▸ hl9 ▸ Bd.mono hbq (by omega)
          have hlt9 : Lt l9 n := hl9 ▸ hly
          rw [← hs9, ← hl9];refine Tri.skip ?_;refine Y32 ?_;refine Y21 ?_;refine s_call (made_c bs m n H t v a hv (by omega) s9 l9 (by omega)) ?_;refine Y10 ?_;exact Tri.ret ⟨.inr rfl, ret1 rfl resV_cell (VImp.refl _), zO⟩
theorem term_c : ∀ n : Nat, TermC bs (termMk bs n) n
 | 0 => term0_c bs
 | n + 1 => termS_c bs n (term_c n)
def typedM (size : Nat) (t : TT) (a : List AB) (s : Sd) : Tm × Sd := (((termMk bs size).f t [] a s size).1, ((termMk bs size).f t [] a s size).2.1)
theorem typed_c (size : Nat) (hs : size ≤ 30) (t : TT) (a : List AB) (ha : a.length ≤ 3) (s : Sd) (h0 : 0 ≤ s.a ∧ s.a ≤ 1000000) :
  HCall Tryz.prog gL 27 [.ptr 950 [] 171, .pu (tyc t.ty), iv .i64 size, .pu (.sl 0 28 (sumsP a))] [] (stO bs s) (.pu (tmc 0 (typedM bs size t a s).1)) (stO bs (typedM bs size t a s).2) [] := by
 have hbd : Bd s size 0 := ⟨by omega⟩
 have hlt : Lt (size : Int) size := ⟨Int.le_refl _⟩
 refine HCall.of_triD tbl 18 [950] Tryz.func27 rfl rfl rfl fun w0 M ρ0 D0 => ?_
 simp only [typedM]
 refine yR ?_;refine s_box SS 5 ?_;refine s_alloc SS 8 ?_;refine e_seqN [5, 8] ?_;refine Y29 ?_;refine yP ?_;refine s_box SS 951 ?_;refine yA ?_;refine e_seqN [951] ?_;refine Y32 ?_;refine yM ?_;refine s_call (term_c bs size t [] a s size 0 ⟨by simp; omega, by simp⟩ (by omega) (by omega)) ?_;refine Y10 ?_;exact Tri.ret ⟨.inr rfl, ret1 rfl resV_cell (VImp.refl _), zO⟩
theorem of_c (cs : List Int) (hl : cs.length < 9223372036854775808) : HCall Tryz.prog gL 26 [.pu (.sl 0 5 (byP cs))] [] [] (.ptr 950 [] 171) (stO (cs.take 300) ⟨0, 88172645463325252⟩) [950] := by
 have hbl := by_len cs
 have hmin : (if (300 : Int) < ((byP cs).length : Int) then 300 else ((byP cs).length : Int)) = ((min cs.length 300 : Nat) : Int) := by split <;> omega
 have htk : (byP cs).take (min cs.length 300) = byP (cs.take 300) := by
  unfold byP
  rw [← List.map_take]
  congr 1
  by_cases h : cs.length ≤ 300
  ·rw [Nat.min_eq_left h, List.take_of_length_le (Nat.le_refl _), List.take_of_length_le h]
  ·rw [Nat.min_eq_right (by omega)]
 refine HCall.of_triD tbl 11 [] Tryz.func26 rfl rfl rfl fun w0 M ρ0 D0 => ?_
 refine Y20 ?_;refine Y29 ?_;refine yC ?_;refine s_val (v_minD) ?_;rw [hmin];refine s_val (v_sliceTo SS (ps := byP cs) (r := min cs.length 300) (by omega)) ?_;rw [htk];refine s_callO (cloneB_c (byP (cs.take 300)) (by rw [by_len]; simp; omega)) ?_;refine yP ?_;refine s_box SS 950 ?_;refine yA ?_;refine e_seqN [950] ?_;refine tQ ?_;exact Tri.ret ⟨.inr rfl, ret1 rfl resV_tmp (VImp.refl _), zO⟩
end Go.Proofs.YtkcgkignhpepkaaGreatDoor

/- Terms that need have no type: the spec, costs; patterns. -/
namespace Go.Proofs.YtkcgkignhpepkaaGreatDoor
open Go Hs
variable (bs : List Int)
def patsL (f : Sd → Pat × Sd) (s : Sd) : Nat → List Pat × Sd
 | 0 => ([], s)
 | i + 1 => ((patsL f s i).1 ++ [(f (patsL f s i).2).1], (f (patsL f s i).2).2)
def patMk : Nat → Sd → Pat × Sd
 | 0, s => if (lessM bs 5 s).1 = 3 then (pnM (lessM bs 3 (lessM bs 5 s).2).1, (lessM bs 3 (lessM bs 5 s).2).2) else (anyM, (lessM bs 5 s).2)
 | d + 1, s =>
  let k := lessM bs 5 s
  if k.1 < 3 then
   let r := pickM bs 1 4 k.2
   let n := lessM bs 2 r.2
   let c := lessM bs 3 n.2
   let ks := patsL (patMk d) c.2 c.1.toNat
   (pcM r.1 n.1 ks.1, ks.2)
  else if k.1 = 3 then (pnM (lessM bs 3 k.2).1, (lessM bs 3 k.2).2) else (anyM, k.2)
theorem pats_bd (f : Sd → Pat × Sd) (c : Int) (hc : 0 ≤ c) (hf : ∀ s l k, Bd s l k → Bd (f s).2 l (k + c)) (s : Sd) (l k : Int) (h : Bd s l k) : ∀ i : Nat, i ≤ 2 → Bd (patsL f s i).2 l (k + c * i)
 | 0, _ => by simpa [patsL] using h
 | i + 1, hi => by
  have := hf _ _ _ (pats_bd f c hc hf s l k h i (by omega))
  simp only [patsL]
  refine Bd.mono this ?_
  push_cast
  rw [Int.mul_add]
  omega
theorem pat_bd : ∀ (d : Nat) (c : Int), c = 2 ∧ d = 0 ∨ c = 8 ∧ d = 1 ∨ c = 20 ∧ d = 2 → ∀ (s : Sd) (l k : Int), Bd s l k → Bd (patMk bs d s).2 l (k + c)
 | 0, c, hc, s, l, k, h => by
  simp only [patMk]
  split <;> (refine Bd.mono inferInstance ?_; omega)
 | d + 1, c, hc, s, l, k, h => by
  obtain ⟨c0, h0, h1, h2⟩ : ∃ c0 : Int, (c0 = 2 ∧ d = 0 ∨ c0 = 8 ∧ d = 1 ∨ c0 = 20 ∧ d = 2) ∧ 4 + 2 * c0 ≤ c ∧ 0 ≤ c0 := by
   rcases hc with ⟨_, hd⟩ | ⟨rfl, hd⟩ | ⟨rfl, hd⟩
   ·omega
   ·exact ⟨2, by omega, by omega, by omega⟩
   ·exact ⟨8, by omega, by omega, by omega⟩
  simp only [patMk]
  split
  ·have hb := less_b bs (lessM bs 2 (pickM bs 1 4 (lessM bs 5 s).2).2).2 (n := 3) (by decide)
   refine Bd.mono (pats_bd _ c0 h2 (fun s l k h => pat_bd d c0 h0 s l k h) _ l _ inferInstance _ (by omega)) ?_
   generalize (lessM bs 3 (lessM bs 2 (pickM bs 1 4 (lessM bs 5 s).2).2).2).1 = z at hb
   obtain ⟨j, rfl⟩ := Int.eq_ofNat_of_zero_le hb.1
   have hj : j < 3 := by omega
   rcases j with _ | _ | _ | j <;> simp <;> omega
  split <;> (refine Bd.mono inferInstance ?_; omega)
instance (s : Sd) (l k : Int) [h : Bd s l k] : Bd (patMk bs 2 s).2 l (k + 20) := pat_bd bs 2 20 (by omega) s l k h
instance (s : Sd) (l k : Int) [h : Bd s l k] : Bd (patMk bs 1 s).2 l (k + 8) := pat_bd bs 1 8 (by omega) s l k h
instance (s : Sd) (l k : Int) [h : Bd s l k] : Bd (patMk bs 0 s).2 l (k + 2) := pat_bd bs 0 2 (by omega) s l k h
structure Sk where
 f : Int → Sd → Int → Tm × Sd × Int
class Sc (m : Sk) : Prop where
 h : ∀ d s l k, Bd s l k → Bd (m.f d s l).2.1 (m.f d s l).2.2 (k + 100)
 le : ∀ d s l, (m.f d s l).2.2 ≤ l
variable (m : Sk) [hm : Sc m]
instance (d : Int) (s : Sd) (l k : Int) [h : Bd s l k] : Bd (m.f d s l).2.1 (m.f d s l).2.2 (k + 100) := hm.h d s l k h
instance (d : Int) (s : Sd) (x l : Int) [h : Dn x l] : Dn (m.f d s x).2.2 l := ⟨Int.le_trans (hm.le d s x) h.h⟩
def scL (m : Sk) (d : Int) (s : Sd) (l : Int) : Nat → List Tm × Sd × Int
 | 0 => ([], s, l)
 | i + 1 => ((scL m d s l i).1 ++ [(m.f d (scL m d s l i).2.1 (scL m d s l i).2.2).1], (m.f d (scL m d s l i).2.1 (scL m d s l i).2.2).2)
def caL (m : Sk) (d : Int) (s : Sd) (l : Int) : Nat → List Cs × Sd × Int
 | 0 => ([], s, l)
 | i + 1 =>
  let p := patMk bs 2 (caL m d s l i).2.1
  let y := m.f (d + bindsM p.1) p.2 (caL m d s l i).2.2
  ((caL m d s l i).1 ++ [.mk p.1 y.1], y.2)
theorem scL_bd (d : Int) (s : Sd) (l k : Int) [h : Bd s l k] : ∀ i : Nat, Bd (scL m d s l i).2.1 (scL m d s l i).2.2 (k + 100 * i)
 | 0 => by simpa [scL] using h
 | i + 1 => by
  have := scL_bd d s l k i
  simp only [scL]
  refine Bd.mono inferInstance ?_
  push_cast; omega
theorem caL_bd (d : Int) (s : Sd) (l k : Int) [h : Bd s l k] : ∀ i : Nat, Bd (caL bs m d s l i).2.1 (caL bs m d s l i).2.2 (k + 120 * i)
 | 0 => by simpa [caL] using h
 | i + 1 => by
  have := caL_bd d s l k i
  simp only [caL]
  refine Bd.mono inferInstance ?_
  push_cast; omega
theorem scL_dn (d : Int) (s : Sd) (x l : Int) [h : Dn x l] : ∀ i : Nat, Dn (scL m d s x i).2.2 l
 | 0 => h
 | i + 1 => by
  have := scL_dn d s x l i
  simp only [scL]
  infer_instance
theorem caL_dn (d : Int) (s : Sd) (x l : Int) [h : Dn x l] : ∀ i : Nat, Dn (caL bs m d s x i).2.2 l
 | 0 => h
 | i + 1 => by
  have := caL_dn d s x l i
  simp only [caL]
  infer_instance
def scAll (m : Sk) (k : Int) (d : Int) (s : Sd) (l : Int) : Tm × Sd × Int :=
 if k = 0 ∧ 0 < d then (vaM (lessM bs d s).1, (lessM bs d s).2, l)
 else if k = 2 then (deM (pickM bs 21 4 s).1, (pickM bs 21 4 s).2, l)
 else if k < 4 then (nuM (lessM bs 4 s).1, (lessM bs 4 s).2, l)
 else if k = 4 then let e := m.f (d + 1) s l; (laM e.1, e.2)
 else if k < 7 then let e := m.f (d + 0) s l; let g := m.f (d + 0) e.2.1 e.2.2; (apM e.1 g.1, g.2)
 else if k = 7 then let e := m.f (d + 0) s l; let g := m.f (d + 1) e.2.1 e.2.2; (leM e.1 g.1, g.2)
 else if k = 8 then let f := fromM bs 1 5 s; let e := m.f (d + 0) f.2 l; let g := m.f (d + 0) e.2.1 e.2.2; (prM f.1 e.1 g.1, g.2)
 else if k = 9 then let r := pickM bs 11 3 s; let n := lessM bs 2 r.2; let e := m.f (d + 0) n.2 l; (doT r.1 n.1 e.1, e.2)
 else if k = 10 then
  let r := pickM bs 11 3 s
  let e := m.f (d + 0) r.2 l
  let g := m.f (d + 1) e.2.1 e.2.2
  let c := lessM bs 3 g.2.1
  let z := scL m (d + 2) c.2 g.2.2 c.1.toNat
  (haM r.1 (e.1 :: g.1 :: z.1), z.2)
 else if k = 11 then
  let e := m.f (d + 0) s l
  let c := lessM bs 3 e.2.1
  let z := caL bs m d c.2 e.2.2 c.1.toNat
  (maM e.1 z.1, z.2)
 else
  let r := pickM bs 1 4 s
  let n := lessM bs 3 r.2
  let c := lessM bs 3 n.2
  let z := scL m (d + 0) c.2 l c.1.toNat
  (coM r.1 n.1 z.1, z.2)
theorem three {z : Int} (h : 0 ≤ z ∧ z < 3) : (z.toNat : Int) ≤ 2 := by omega
theorem scAll_bd (k' : Int) (d : Int) (s : Sd) (l k : Int) [h : Bd s l k] : Bd (scAll bs m k' d s l).2.1 (scAll bs m k' d s l).2.2 (k + 450) := by
 simp only [scAll]
 repeat' split
 all_goals first
  | (refine Bd.mono inferInstance ?_; omega)
  | (refine Bd.mono (scL_bd m _ _ _ _ _) ?_; have := three (less_b bs (m.f (d + 1) (m.f (d + 0) (pickM bs 11 3 s).2 l).2.1 (m.f (d + 0) (pickM bs 11 3 s).2 l).2.2).2.1 (n := 3) (by decide)); omega)
  | (refine Bd.mono (caL_bd bs m _ _ _ _ _) ?_; have := three (less_b bs (m.f (d + 0) s l).2.1 (n := 3) (by decide)); omega)
  | (refine Bd.mono (scL_bd m _ _ _ _ _) ?_; have := three (less_b bs (lessM bs 3 (pickM bs 1 4 s).2).2 (n := 3) (by decide)); omega)
theorem scAll_dn (k' : Int) (d : Int) (s : Sd) (x l : Int) [h : Dn x l] : Dn (scAll bs m k' d s x).2.2 l := by
 simp only [scAll]
 repeat' split
 all_goals first
  | infer_instance
  | exact scL_dn m _ _ _ _ _
  | exact caL_dn bs m _ _ _ _ _
def lowK (l : Int) (s : Sd) : Int × Sd := if l ≤ 0 then lessM bs 4 (lessM bs 14 s).2 else lessM bs 14 s
theorem low_bd (x : Int) (s : Sd) (l k : Int) [h : Bd s l k] : Bd (lowK bs x s).2 l (k + 2) := by
 unfold lowK
 split <;> (refine Bd.mono inferInstance ?_; omega)
def idleK : Sk := ⟨fun _ s l => (zeroM, s, l)⟩
instance : Sc idleK := ⟨fun _ _ _ _ h => Bd.mono h (by omega), fun _ _ l => Int.le_refl l⟩
def scopedMk : Nat → Sk
 | 0 => ⟨fun d s l => if l - 1 ≤ 0 then scAll bs idleK (lowK bs (l - 1) s).1 d (lowK bs (l - 1) s).2 (l - 1) else (nuM 0, s, l - 1)⟩
 | n + 1 => ⟨fun d s l => scAll bs (scopedMk n) (lowK bs (l - 1) s).1 d (lowK bs (l - 1) s).2 (l - 1)⟩
end Go.Proofs.YtkcgkignhpepkaaGreatDoor

/- Terms that need have no type: patterns. -/
namespace Go.Proofs.YtkcgkignhpepkaaGreatDoor
open Go Hs
section
variable (bs : List Int)
theorem low_lt {x : Int} {s : Sd} (h : x ≤ 0) : (lowK bs x s).1 < 4 := by
 unfold lowK
 rw [if_pos h];exact (less_b bs _ (by decide)).2
theorem low_nn (x : Int) (s : Sd) : 0 ≤ (lowK bs x s).1 ∧ (lowK bs x s).1 < 14 := by
 unfold lowK
 split
 ·have := less_b bs (lessM bs 14 s).2 (n := 4) (by decide); omega
 ·exact less_b bs _ (by decide)
theorem scAll_leaf (m : Sk) (k' : Int) (hk : k' < 4) (d : Int) (s : Sd) (l k : Int) [h : Bd s l k] : Bd (scAll bs m k' d s l).2.1 (scAll bs m k' d s l).2.2 (k + 1) := by
 unfold scAll
 split
 ·infer_instance
 split
 ·infer_instance
 infer_instance
instance sc_sc : ∀ n : Nat, Sc (scopedMk bs n)
 | 0 => ⟨fun d s l k h => by
  have hd := h.dec
  simp only [scopedMk]
  split
  ·rename_i hl
   have := low_bd bs (l - 1) s (l - 1) (k + 1)
   exact Bd.mono (scAll_leaf bs idleK _ (low_lt bs hl) d _ _ (k + 1 + 2)) (by omega)
  ·exact Bd.mono hd (by omega), fun d s l => by
  simp only [scopedMk]
  split
  ·have : Dn (l - 1) l := ⟨by omega⟩
   exact (scAll_dn bs idleK _ d _ (l - 1) l).h
  ·show l - 1 ≤ l
   omega⟩
 | n + 1 => ⟨fun d s l k h => by
  have ih := sc_sc n
  simp only [scopedMk]
  by_cases hl : l - 1 ≤ 0
  ·have hd := h.dec
   have := low_bd bs (l - 1) s (l - 1) (k + 1)
   exact Bd.mono (scAll_leaf bs _ _ (low_lt bs hl) d _ _ (k + 1 + 2)) (by omega)
  ·have hd := h.down (by omega)
   have := low_bd bs (l - 1) s (l - 1) (k - 2001)
   exact Bd.mono (scAll_bd bs _ _ d _ _ (k - 2001 + 2)) (by omega), fun d s l => by
  have ih := sc_sc n
  have : Dn (l - 1) l := ⟨by omega⟩
  simp only [scopedMk]
  exact (scAll_dn bs _ _ d _ (l - 1) l).h⟩
end
section
variable {G : List (Nat × TypeId × Pu)}
theorem PCN_c (r : List Int) (n : Int) : FCall Tryz.prog G 67 [.pu (refP r), iv .i64 n, .nilc] (.agg 104 [iv .i64 3, iv .i64 n, .pu (refP r), .nilc]) := by
 refine FCall.of_tri tbl 11 Tryz.func67 rfl rfl rfl fun w0 M ρ0 D0 => ?_
 refine yR ?_;refine s_box SS 3 ?_;refine s_alloc SS 6 ?_;refine e_seqN [3, 6] ?_;refine Y4 ?_;refine Y21 ?_;refine Y41 ?_;exact Tri.ret ⟨.inr rfl, ret1 rfl resV_cell (VImp.refl _)⟩
theorem CoN_c (r : List Int) (n : Int) : FCall Tryz.prog G 43 [.pu (refP r), iv .i64 n, .nilc] (.agg 32 [iv .i64 8, iv .i64 n, .pu (refP r), .nilc, .nilc]) := by
 refine FCall.of_tri tbl 11 Tryz.func43 rfl rfl rfl fun w0 M ρ0 D0 => ?_
 refine yR ?_;refine s_box SS 3 ?_;refine s_alloc SS 6 ?_;refine e_seqN [3, 6] ?_;refine Y4 ?_;refine Y21 ?_;refine Y41 ?_;exact Tri.ret ⟨.inr rfl, ret1 rfl resV_cell (VImp.refl _)⟩
theorem MaN_c (t : Tm) : FCall Tryz.prog G 62 [.pu (tmc 0 t), .nilc] (.agg 32 [iv .i64 9, iv .i64 0, .pu (refP Z32), .xs 0 32 [tmc 0 t], .nilc]) := by
 refine FCall.of_tri tbl 9 Tryz.func62 rfl rfl rfl fun w0 M ρ0 D0 => ?_
 refine yR ?_;refine s_box SS 2 ?_;refine s_alloc SS 4 ?_;refine e_seqN [2, 4] ?_;refine Y4 ?_;refine yZ ?_;refine yM ?_;refine Y41 ?_;exact Tri.ret ⟨.inr rfl, ret1 rfl resV_cell (VImp.refl _)⟩
mutual
def pkP : Pat → Prop
 | .mk k _ _ ks => (k = 1 ∨ k = 3 ∨ ks = []) ∧ pkPs ks
def pkPs : List Pat → Prop
 | [] => True
 | p :: ps => pkP p ∧ pkPs ps
end
theorem pkPs_get : ∀ {ks : List Pat} {i : Nat} (h : i < ks.length), pkPs ks → pkP ks[i]
 | p :: ps, 0, _, h => h.1
 | p :: ps, i + 1, hi, h => pkPs_get (ks := ps) (i := i) (by simpa using hi) h.2
theorem kbinds_c : ∀ (N : Nat) (p : Pat), pkP p → psize p ≤ N → N < 2^40 → FCall Tryz.prog G 209 [.pu (patc 0 p)] (iv .i64 (bindsM p)) := by
 intro N
 induction N with
 | zero => intro p _ h; cases p; simp [psize] at h
 | succ N ih =>
 intro p hpk hp hN
 obtain ⟨k, n, r, ks⟩ := p
 simp only [psize] at hp
 obtain ⟨hk, hks⟩ := hpk
 have hlen := length_psizeL ks
 refine FCall.of_tri tbl 25 Tryz.func209 rfl rfl rfl fun w0 M ρ0 D0 => ?_
 refine yR ?_;refine s_box SS 1 ?_;refine yB ?_;refine e_seqN [1] ?_;refine Y34 ?_;refine Y0 ?_;refine Tri.cond rfl (fun h0 => ?_) (fun h0 => ?_)
 ·skip
  refine Y8 ?_;exact Tri.ret ⟨.inr rfl, ret1 rfl resV_tmp (iv_imp (by simp_all [bindsM]))⟩
 ·skip
  refine Tri.skip ?_;refine Y20 ?_;refine Y34 ?_;refine Y0 ?_;refine Tri.cond rfl (fun h1 => ?_) (fun h1 => ?_)
  ·skip
   refine Y52 ?_;refine Y33 ?_;refine Tri.block (Tri.loopW (σ := Nat) (fun i => ⟨[(13, .pu (.sl 0 104 (patsc 0 ks))), (14, iv .i64 (patsc 0 ks).length), (15, iv .i64 i), (3, iv .i64 (bindsL (ks.take i)))], []⟩) (fun i => ks.length - i) 0 ?_ ?_ (fun i => ?_))
   ·exact zW
   ·exact zW
   refine Y31 ?_;refine Tri.cond rfl (fun h2 => ?_) (fun h2 => ?_)
   ·skip
    have hi : i < ks.length := by simpa [pats_eq] using h2
    have h1' := bindsL_bound (ks.take i)
    have h2 := binds_bound ks[i]
    have h3 := psizeL_take (ks := ks) (i := i)
    have h4 := psizeL_get hi
    refine Tri.skip ?_;refine tQ ?_;refine Tri.block ?_;refine yR ?_;refine s_val (v_index SS (h0 := by omega) (hp := pats_get hi)) ?_;refine yL ?_;refine s_alloc SS 5 ?_;refine yS ?_;refine e_seqN [5] ?_;refine Y32 ?_;refine s_val (v_callD (fun _ => ih ks[i] (pkPs_get hi hks) (by omega) (by omega))) ?_;refine yI ?_;refine Y14 ?_;refine Y27 ?_
    refine ⟨i + 1, by omega, le_of ?_ ?_⟩
    ·repeat (first | exact SubE.nil | refine SubE.cons rfl (by first | rfl | (rw [wrap64 (by omega) (by omega)]; rfl) | (rw [bindsL_take hi, wrap64 (by omega) (by omega)])) ?_)
    ·repeat (first | exact SubH.nil | refine SubH.cons rfl (by first | rfl | (rw [wrap64 (by omega) (by omega)]; rfl) | (rw [bindsL_take hi, wrap64 (by omega) (by omega)])) ?_)
   ·skip
    have hi : ks.length ≤ i := by simpa [pats_eq] using h2
    rw [List.take_of_length_le hi]
    have hb : bindsM (.mk k n r ks) = bindsL ks := by simp at h0; simp [bindsM, h0]
    rw [hb];refine Tri.exit ?_;refine Y1 ?_;refine Y2 ?_;exact Tri.ret ⟨.inr rfl, ret1 rfl resV_tmp (VImp.refl _)⟩
  ·skip
   have hb : bindsM (.mk k n r ks) = 0 := by simp at h0 h1; simp [bindsM, h0]; rcases hk with hk | hk | hk <;> simp_all [bindsL]
   rw [hb];refine Tri.skip ?_;refine Y1 ?_;refine Y2 ?_;exact Tri.ret ⟨.inr rfl, ret1 rfl resV_tmp (VImp.refl _)⟩
end
section
variable (bs : List Int)
theorem patsL_len (f : Sd → Pat × Sd) (s : Sd) : ∀ i, (patsL f s i).1.length = i
 | 0 => rfl
 | i + 1 => by simp [patsL, patsL_len f s i]
theorem patsL_all {f : Sd → Pat × Sd} {φ : Pat → Prop} (hf : ∀ s, φ (f s).1) (s : Sd) : ∀ i, ∀ p ∈ (patsL f s i).1, φ p
 | 0, p, hp => by simp [patsL] at hp
 | i + 1, p, hp => by
  simp only [patsL, List.mem_append, List.mem_singleton] at hp
  rcases hp with hp | rfl
  ·exact patsL_all hf s i p hp
  ·exact hf _
theorem pkPs_all : ∀ {l : List Pat}, (∀ p ∈ l, pkP p) → pkPs l
 | [], _ => trivial
 | p :: ps, h => ⟨h p (by simp), pkPs_all fun q hq => h q (by simp [hq])⟩
theorem pat_pk : ∀ (d : Nat) (s : Sd), pkP (patMk bs d s).1
 | 0, s => by simp only [patMk]; split <;> simp [pnM, anyM, pkP, pkPs]
 | d + 1, s => by
  simp only [patMk]
  split
  ·exact ⟨.inr (.inl rfl), pkPs_all (patsL_all (pat_pk d) _ _)⟩
  split <;> simp [pnM, anyM, pkP, pkPs]
theorem psizeL_all {c : Nat} : ∀ {l : List Pat}, (∀ p ∈ l, psize p ≤ c) → psizeL l ≤ l.length * c
 | [], _ => by simp [psizeL]
 | p :: ps, h => by
  have h1 := h p (by simp)
  have h2 := psizeL_all (l := ps) fun q hq => h q (by simp [hq])
  simp only [psizeL, List.length_cons, Nat.succ_mul]
  omega
theorem less3 (s : Sd) : (lessM bs 3 s).1.toNat ≤ 2 := by have := less_b bs s (n := 3) (by decide); omega
theorem pat_size : ∀ (d c : Nat), (d = 0 ∧ c = 1 ∨ d = 1 ∧ c = 3 ∨ d = 2 ∧ c = 7) → ∀ (s : Sd), psize (patMk bs d s).1 ≤ c
 | 0, c, hc, s => by simp only [patMk]; split <;> simp [pnM, anyM, psize, psizeL] <;> omega
 | d + 1, c, hc, s => by
  obtain ⟨c0, h0, h1⟩ : ∃ c0 : Nat, (d = 0 ∧ c0 = 1 ∨ d = 1 ∧ c0 = 3 ∨ d = 2 ∧ c0 = 7) ∧ 1 + 2 * c0 ≤ c := by
   rcases hc with ⟨hd, _⟩ | ⟨hd, rfl⟩ | ⟨hd, rfl⟩
   ·omega
   ·exact ⟨1, by omega, by omega⟩
   ·exact ⟨3, by omega, by omega⟩
  simp only [patMk]
  split
  ·have h2 := less3 bs (lessM bs 2 (pickM bs 1 4 (lessM bs 5 s).2).2).2
   generalize (lessM bs 3 (lessM bs 2 (pickM bs 1 4 (lessM bs 5 s).2).2).2).1.toNat = z at h2
   have h3 := psizeL_all (patsL_all (f := patMk bs d) (φ := fun p => psize p ≤ c0) (fun s => pat_size d c0 h0 s) (lessM bs 3 (lessM bs 2 (pickM bs 1 4 (lessM bs 5 s).2).2).2).2 z)
   rw [patsL_len] at h3
   have h4 : z * c0 ≤ 2 * c0 := Nat.mul_le_mul_right c0 h2
   simp only [pcM, psize]
   omega
  split <;> simp [pnM, anyM, psize, psizeL] <;> omega
end
variable (bs : List Int) [hz : Bz bs]
theorem pat0_c (s : Sd) {l k : Int} [h : Bd s l k] (hk : k ≤ 10000) : HCall Tryz.prog gL 208 [.ptr 950 [] 171, iv .i64 0] [] (stO bs s) (.pu (patc 0 (patMk bs 0 s).1)) (stO bs (patMk bs 0 s).2) [] := by
 refine HCall.of_triD tbl 43 [950] Tryz.func208 rfl rfl rfl fun w0 M ρ0 D0 => ?_
 simp only [patMk]
 refine yR ?_;refine s_alloc SS 4 ?_;refine e_seqN [4] ?_;refine Y1 ?_;refine s_call (less_c bs 5 s (by omega)) ?_;refine Y2 ?_;refine Tri.block ?_;refine Y51 ?_;refine Tri.cond rfl (fun h0 => ?_) (fun h0 => ?_)
 ·exfalso
  simp at h0
 ·skip
  refine Y38 ?_;refine Tri.cond rfl (fun h2 => ?_) (fun h2 => ?_)
  ·skip
   rw [if_pos (eq_of_beq h2)];refine Y1 ?_;refine s_call (less_c bs 3 (lessM bs 5 s).2 (by omega)) ?_;refine s_val (v_callD (fun _ => PN_c _)) ?_;refine Y10 ?_;exact Tri.ret ⟨.inr rfl, ret1 rfl resV_cell (VImp.refl _), zO⟩
  ·skip
   rw [if_neg (fun e => by rw [e] at h2; simp at h2)];refine Tri.skip ?_;refine yR ?_;refine s_val (v_callD (fun _ => Any_c)) ?_;refine Y10 ?_;exact Tri.ret ⟨.inr rfl, ret1 rfl resV_cell (VImp.refl _), zO⟩
theorem patS_c (K : Int) (hK : K ≤ 10000) (d : Nat) (hd : d ≤ 5) (kd : Int) (hkd : 0 ≤ kd ∧ kd ≤ 100) (ihb : ∀ s l k, Bd s l k → Bd (patMk bs d s).2 l (k + kd)) (ih : ∀ (s : Sd) (l k : Int) [Bd s l k], k ≤ K → HCall Tryz.prog gL 208 [.ptr 950 [] 171, iv .i64 d] [] (stO bs s) (.pu (patc 0 (patMk bs d s).1)) (stO bs (patMk bs d s).2) [])
  (s : Sd) {l k : Int} [h : Bd s l k] (hk : k ≤ K - 1000) : HCall Tryz.prog gL 208 [.ptr 950 [] 171, iv .i64 (d + 1 : Nat)] [] (stO bs s) (.pu (patc 0 (patMk bs (d + 1) s).1)) (stO bs (patMk bs (d + 1) s).2) [] := by
 have hw : IntKind.i64.wrap (((d + 1 : Nat) : Int) - 1) = d := by rw [wrap64 (by omega) (by omega)]; omega
 refine HCall.of_triD tbl 43 [950] Tryz.func208 rfl rfl rfl fun w0 M ρ0 D0 => ?_
 simp only [patMk]
 refine yR ?_;refine s_alloc SS 4 ?_;refine e_seqN [4] ?_;refine Y1 ?_;refine s_call (less_c bs 5 s (by omega)) ?_;refine Y2 ?_;refine Tri.block ?_;refine Y51 ?_;refine Tri.cond rfl (fun h0 => ?_) (fun h0 => ?_)
 ·skip
  have g0 : (lessM bs 5 s).1 < 3 := by simp at h0; omega
  rw [if_pos g0]
  obtain ⟨r, hr⟩ : ∃ r, r = pickM bs 1 4 (lessM bs 5 s).2 := ⟨_, rfl⟩
  obtain ⟨n, hn⟩ : ∃ n, n = lessM bs 2 r.2 := ⟨_, rfl⟩
  obtain ⟨c, hc⟩ : ∃ c, c = lessM bs 3 n.2 := ⟨_, rfl⟩
  have hbr : Bd r.2 l (k + 2) := hr ▸ Bd.mono (inferInstance : Bd (pickM bs 1 4 (lessM bs 5 s).2).2 l (k + 1 + 1)) (by omega)
  have hbn : Bd n.2 l (k + 3) := hn ▸ Bd.mono (inferInstance : Bd (lessM bs 2 r.2).2 l (k + 2 + 1)) (by omega)
  have hbc : Bd c.2 l (k + 4) := hc ▸ Bd.mono (inferInstance : Bd (lessM bs 3 n.2).2 l (k + 3 + 1)) (by omega)
  have hcb : 0 ≤ c.1 ∧ c.1 < 3 := hc ▸ less_b bs n.2 (n := 3) (by decide)
  have hlp (i : Nat) (hi : i ≤ 2) : Bd (patsL (patMk bs d) c.2 i).2 l (k + 300) := Bd.mono (pats_bd _ kd hkd.1 ihb c.2 l (k + 4) hbc i hi) (by have : kd * (i : Int) ≤ kd * 2 := Int.mul_le_mul_of_nonneg_left (by omega) hkd.1; omega)
  rw [← hr, ← hn, ← hc];refine Y1 ?_;refine s_call (pick_c bs 1 4 (lessM bs 5 s).2 (by omega)) ?_;refine yM ?_;rw [← hr];refine s_call (less_c bs 2 r.2 (by omega)) ?_;rw [← hn];refine s_val (v_callD (fun _ => PCN_c r.1 n.1)) ?_;refine s_alloc SS 6 ?_;refine yS ?_;refine e_seqN [6] ?_;refine Y1 ?_;refine s_call (less_c bs 3 n.2 (by omega)) ?_;refine yJ ?_;refine e_seq ?_;rw [← hc];refine tQ ?_
  refine Tri.block (Tri.loopW (σ := {i : Nat // i ≤ c.1.toNat}) (fun i => ⟨[(0, .ptr 950 [] 171), (1, iv .i64 (d + 1 : Nat)), (4, .ptr 4 [] 104), (6, .ptr 6 [] 104), (22, iv .i64 c.1), (23, iv .i64 i.1)], [(4, .var 104 (.agg 104 [iv .i64 0, iv .i64 0, .pu (refP Z32), .nilc])), (6, .var 104 (.agg 104 [iv .i64 3, iv .i64 n.1, .pu (refP r.1), .ow 0 104 (patsc 0 (patsL (patMk bs d) c.2 i.1).1)]))] ++ stO bs (patsL (patMk bs d) c.2 i.1).2⟩) (fun i => c.1.toNat - i.1) ⟨0, Nat.zero_le _⟩ ?_ ?_ (fun i => ?_))
  ·exact zW
  ·exact zW
  refine Y31 ?_;refine Tri.cond rfl (fun h1 => ?_) (fun h1 => ?_)
  ·skip
   have hi : i.1 < c.1.toNat := by have := of_decide_eq_true h1; omega
   have hbi := hlp i.1 (by omega)
   have hll := patsL_len (patMk bs d) c.2 i.1
   have hts : patsc 0 (patsL (patMk bs d) c.2 (i.1 + 1)).1 = patsc 0 (patsL (patMk bs d) c.2 i.1).1 ++ [patc 0 (patMk bs d (patsL (patMk bs d) c.2 i.1).2).1] := by simp [patsL, pats_eq]
   refine Tri.skip ?_;refine tQ ?_;refine Tri.block ?_;refine Y23 ?_;refine Y21 ?_;refine yI ?_;rw [hw];refine s_call (ih (patsL (patMk bs d) c.2 i.1).2 l _ (by omega)) ?_;refine yZ ?_;refine s_app2 6 [3] ?_ ?_
   ·simp [pats_eq]; omega
   refine yF ?_;refine yW ?_;refine e_draw ?_;refine Y27 ?_
   refine ⟨⟨i.1 + 1, hi⟩, by show c.1.toNat - (i.1 + 1) < c.1.toNat - i.1; omega, le_of ?_ ?_⟩
   ·repeat (first | exact SubE.nil | refine SubE.cons rfl (by first | rfl | (rw [wrap64 (by omega) (by omega)]; rfl) | ((rw [hts]; rfl))) ?_)
   ·repeat (first | exact SubH.nil | refine SubH.cons rfl (by first | rfl | (rw [wrap64 (by omega) (by omega)]; rfl) | ((rw [hts]; rfl))) ?_)
  ·skip
   have hi : i.1 = c.1.toNat := by have := of_decide_eq_false h1; have := i.2; omega
   rw [hi];refine Tri.exit ?_;refine Y57 ?_;exact Tri.ret ⟨.inr rfl, ret1 rfl resV_cell (ToPu.imp (by repeat constructor)), zO⟩
 ·skip
  have g0 : ¬ (lessM bs 5 s).1 < 3 := by simp at h0; omega
  rw [if_neg g0];refine Y38 ?_;refine Tri.cond rfl (fun h2 => ?_) (fun h2 => ?_)
  ·skip
   rw [if_pos (eq_of_beq h2)];refine Y1 ?_;refine s_call (less_c bs 3 (lessM bs 5 s).2 (by omega)) ?_;refine s_val (v_callD (fun _ => PN_c _)) ?_;refine Y10 ?_;exact Tri.ret ⟨.inr rfl, ret1 rfl resV_cell (VImp.refl _), zO⟩
  ·skip
   rw [if_neg (fun e => by rw [e] at h2; simp at h2)];refine Tri.skip ?_;refine yR ?_;refine s_val (v_callD (fun _ => Any_c)) ?_;refine Y10 ?_;exact Tri.ret ⟨.inr rfl, ret1 rfl resV_cell (VImp.refl _), zO⟩
theorem pat2_c (s : Sd) {l k : Int} [h : Bd s l k] (hk : k ≤ 7000) : HCall Tryz.prog gL 208 [.ptr 950 [] 171, iv .i64 2] [] (stO bs s) (.pu (patc 0 (patMk bs 2 s).1)) (stO bs (patMk bs 2 s).2) [] := by
 have h1 := fun (s : Sd) (l k : Int) [Bd s l k] (hk : k ≤ 9000) => patS_c bs 10000 (by omega) 0 (by omega) 2 (by omega) (fun s l k h => inferInstance) (fun s l k _ hk => pat0_c bs s (k := k) (l := l) hk) s (k := k) (l := l) (by omega)
 exact patS_c bs 9000 (by omega) 1 (by omega) 8 (by omega) (fun s l k h => inferInstance) (fun s l k _ hk => h1 s l k hk) s (k := k) (l := l) (by omega)
end Go.Proofs.YtkcgkignhpepkaaGreatDoor

/- Terms that need have no type: the walk. -/
namespace Go.Proofs.YtkcgkignhpepkaaGreatDoor
open Go Hs
def ScC (bs : List Int) (m : Sk) (n : Nat) : Prop := ∀ (d : Int) (s : Sd) (l k : Int) [Bd s l k] [Lt l n], 0 ≤ d → d + 100 * (n + 1) ≤ 100000 → k ≤ 0 →
 HCall Tryz.prog gL 141 [.ptr 951 [] 174, iv .i64 d, iv .i64 0] [] (mkO bs s l) (.pu (tmc 0 (m.f d s l).1)) (mkO bs (m.f d s l).2.1 (m.f d s l).2.2) []
variable (bs : List Int) [hz : Bz bs] (m : Sk) [hm : Sc m] (n : Nat)
abbrev scR (d : Int) : List (Nat × Ob) := [(3, .var 172 (.ptr 951 [] 174)), (4, .var 3 (iv .i64 d)), (5, .var 3 (iv .i64 0))]
instance (d : Int) (s : Sd) (l : Int) [h : Lt l n] : Lt (m.f d s l).2.2 n := ⟨Int.le_trans (hm.le d s l) h.h⟩
theorem two_c (H : ScC bs m n) (d e : Int) (hd : 0 ≤ d ∧ 0 ≤ e ∧ e ≤ 100 ∧ d + e + 100 * (n + 1) ≤ 100000) (s : Sd) (l : Int) {k : Int} [h : Bd s l k] [hl : Lt l n] (hk : k ≤ 0) : HCall Tryz.prog gL 205 [iv .i64 e, .ptr 3 [] 172, .ptr 4 [] 3, .ptr 5 [] 3] (scR d) (mkO bs s l) (.pu (tmc 0 (m.f (d + e) s l).1)) (mkO bs (m.f (d + e) s l).2.1 (m.f (d + e) s l).2.2) [] := by
 have hw : IntKind.i64.wrap (d + e) = d + e := wrap64 (by omega) (by omega)
 refine HCall.of_triD tbl 12 [950, 951, 3, 4, 5] Tryz.func205 rfl rfl rfl fun w0 M ρ0 D0 => ?_
 refine yR ?_;refine s_alloc SS 31 ?_;refine e_seqN [31] ?_;refine Y36 ?_;refine yM ?_;refine yI ?_;refine yL ?_;rw [hw];refine s_call (H (d + e) s l k (by omega) (by omega) hk) ?_;refine Y10 ?_;exact Tri.ret ⟨.inr rfl, ret1 rfl resV_cell (VImp.refl _), zO⟩
theorem scL_len (d : Int) (s : Sd) (l : Int) : ∀ i, (scL m d s l i).1.length = i
 | 0 => rfl
 | i + 1 => by simp [scL, scL_len d s l i]
theorem caL_len (d : Int) (s : Sd) (l : Int) : ∀ i, (caL bs m d s l i).1.length = i
 | 0 => rfl
 | i + 1 => by simp [caL, caL_len d s l i]
theorem csz_app (a b : List Cs) {lo : Nat} : cssc lo (a ++ b) = cssc lo a ++ cssc lo b := by simp [css_eq]
set_option maxHeartbeats 4000000 in
theorem scopedN_c (d : Int) (s : Sd) (l k : Int) [h : Bd s l k] (hd : 0 ≤ d ∧ d ≤ 100000) (hk : k ≤ 0) (hH : 0 < l - 1 → ScC bs m n ∧ Lt (l - 1) n ∧ d + 100 * (n + 2) ≤ 100000) :
  HCall Tryz.prog gL 141 [.ptr 951 [] 174, iv .i64 d, iv .i64 0] [] (mkO bs s l) (.pu (tmc 0 (scAll bs m (lowK bs (l - 1) s).1 d (lowK bs (l - 1) s).2 (l - 1)).1)) (mkO bs (scAll bs m (lowK bs (l - 1) s).1 d (lowK bs (l - 1) s).2 (l - 1)).2.1 (scAll bs m (lowK bs (l - 1) s).1 d (lowK bs (l - 1) s).2 (l - 1)).2.2) [] := by
 have hlow := h.low hk
 have hup : l ≤ 2305843009213693952 := by have := h.h; omega
 obtain ⟨y, hy⟩ : ∃ y, y = l - 1 := ⟨_, rfl⟩
 have hwl : IntKind.i64.wrap (l - 1) = y := by rw [hy]; exact wrap64 (by omega) (by omega)
 have hbd : Bd s y (k + 1) := hy ▸ h.dec
 rw [← hy] at hH ⊢
 refine HCall.of_triD tbl 223 [950, 951] Tryz.func141 rfl rfl rfl fun w0 M ρ0 D0 => ?_
 refine yR ?_;refine s_box SS 3 ?_;refine s_box SS 4 ?_;refine s_box SS 5 ?_;refine s_alloc SS 6 ?_;refine e_seqN [3, 4, 5, 6] ?_;refine Y53 ?_;refine Y50 ?_;refine Y17 ?_;rw [hwl];refine yR ?_;refine s_val (v_mkFnD SS) ?_;refine Y14 ?_;refine Y28 ?_;refine s_call (less_c bs 14 s (by omega)) ?_;refine Y14 ?_;refine Y28 ?_;refine Y45 ?_
 refine Tri.cutW (σ := {x : Int × Sd // x = lowK bs y s}) (fun x => ⟨[(3, .ptr 3 [] 172), (4, .ptr 4 [] 3), (5, .ptr 5 [] 3), (6, .ptr 6 [] 32), (7, .fn (.func 205) [] [.ptr 3 [] 172, .ptr 4 [] 3, .ptr 5 [] 3]), (8, iv .i64 x.1.1)], [(6, .var 32 (.agg 32 [iv .i64 0, iv .i64 0, .pu (refP Z32), .nilc, .nilc]))] ++ scR d ++ mkO bs x.1.2 y⟩) ?_ (fun x => ?_)
 ·skip
  refine tQ ?_;refine Tri.cond rfl (fun h0 => ?_) (fun h0 => ?_)
  ·skip
   have hlw : lessM bs 4 (lessM bs 14 s).2 = lowK bs y s := by unfold lowK; rw [if_pos (of_decide_eq_true h0)]
   refine Y28 ?_;refine s_call (less_c bs 4 (lessM bs 14 s).2 (by omega)) ?_;refine Y14 ?_
   refine ⟨⟨_, hlw⟩, ?_, ?_⟩
   ·exact zW
   ·exact zW
  ·skip
   have hlw : lessM bs 14 s = lowK bs y s := by unfold lowK; rw [if_neg (of_decide_eq_false h0)]
   refine Tri.skip ?_
   refine ⟨⟨_, hlw⟩, ?_, ?_⟩
   ·exact zW
   ·exact zW
 ·skip
  obtain ⟨x, hx⟩ := x
  dsimp only
  have hbx : Bd x.2 y (k + 3) := hx ▸ Bd.mono (low_bd bs y s y (k + 1)) (by omega)
  have hxb : 0 ≤ x.1 ∧ x.1 < 14 := hx ▸ low_nn bs y s
  have hbig : ¬ x.1 < 4 → Bd x.2 y (k - 1999) ∧ ScC bs m n ∧ Lt y n ∧ d + 100 * (n + 2) ≤ 100000 := fun hx4 => by
   have hy0 : 0 < y := Decidable.byContradiction fun h0 => hx4 (hx ▸ low_lt bs (by omega))
   have hb2 : Bd s y (k - 2001) := hy ▸ h.down (by omega)
   exact ⟨hx ▸ Bd.mono (low_bd bs y s y (k - 2001)) (by omega), hH hy0⟩
  rw [← hx]
  simp only [scAll]
  refine tQ ?_;refine Tri.block ?_;refine Y11 ?_;refine Y60 ?_;refine Y19 ?_;refine Y2 ?_;refine Tri.cond rfl (fun h1 => ?_) (fun h1 => ?_)
  ·skip
   have g1 : x.1 = 0 ∧ 0 < d := by simp at h1; omega
   rw [if_pos g1];refine Y28 ?_;refine yL ?_;refine s_call (less_c bs d x.2 (by omega)) ?_;refine s_val (v_callD (fun _ => Va_c _)) ?_;refine Y25 ?_;exact Tri.ret ⟨.inr rfl, ret1 rfl resV_cell (VImp.refl _), zO⟩
  ·skip
   have g1 : ¬ (x.1 = 0 ∧ 0 < d) := by simp at h1; omega
   rw [if_neg g1];refine Y11 ?_;refine Y60 ?_;refine Y19 ?_;refine Y2 ?_;refine Tri.cond rfl (fun h2 => ?_) (fun h2 => ?_)
   ·exfalso
    simp at h2
   ·skip
    refine Y38 ?_;refine Tri.cond rfl (fun h3 => ?_) (fun h3 => ?_)
    ·skip
     rw [if_pos (eq_of_beq h3)];refine Y28 ?_;refine s_call (pick_c bs 21 4 x.2 (by omega)) ?_;refine s_val (v_callD (fun _ => De_c _)) ?_;refine Y10 ?_;exact Tri.ret ⟨.inr rfl, ret1 rfl resV_cell (VImp.refl _), zO⟩
    ·skip
     have g3 : ¬ x.1 = 2 := by simpa using h3
     rw [if_neg g3];refine Y38 ?_;refine Tri.cond rfl (fun h4 => ?_) (fun h4 => ?_)
     ·skip
      rw [if_pos (of_decide_eq_true h4)];refine Y28 ?_;refine s_call (less_c bs 4 x.2 (by omega)) ?_;refine s_val (v_callD (fun _ => Nu_c _)) ?_;refine Y10 ?_;exact Tri.ret ⟨.inr rfl, ret1 rfl resV_cell (VImp.refl _), zO⟩
     ·skip
      have g4 := of_decide_eq_false h4
      rw [if_neg g4]
      obtain ⟨hbx2, H, hly, hdn⟩ := hbig g4
      clear hbx hbig;refine Y38 ?_;refine Tri.cond rfl (fun h5 => ?_) (fun h5 => ?_)
      ·skip
       rw [if_pos (eq_of_beq h5)];refine Y1 ?_;refine s_call (two_c bs m n H d 1 (by omega) x.2 y (by omega)) ?_;refine s_val (v_callD (fun _ => La_c _)) ?_;refine Y10 ?_;exact Tri.ret ⟨.inr rfl, ret1 rfl resV_cell (VImp.refl _), zO⟩
      ·skip
       have g5 : ¬ x.1 = 4 := by simpa using h5
       rw [if_neg g5];refine Y38 ?_;refine Tri.cutT ⟨[(3, .ptr 3 [] 172), (4, .ptr 4 [] 3), (5, .ptr 5 [] 3), (6, .ptr 6 [] 32), (7, .fn (.func 205) [] [.ptr 3 [] 172, .ptr 4 [] 3, .ptr 5 [] 3]), (8, iv .i64 x.1), (88, bv (decide (x.1 < 7)))], [(6, .var 32 (.agg 32 [iv .i64 0, iv .i64 0, .pu (refP Z32), .nilc, .nilc]))] ++ scR d ++ mkO bs x.2 y⟩ ?_ ?_
       ·skip
        refine tQ ?_;refine Tri.cond rfl (fun h6 => ?_) (fun h6 => ?_)
        ·skip
         have hx6 : (x.1 == 5) = decide (x.1 < 7) := by have := eq_of_beq h6; rw [this]; rfl
         refine Tri.skip ?_;refine le_of ?_ ?_
         ·repeat (first | exact SubE.nil | refine SubE.cons rfl (by first | rfl | (rw [wrap64 (by omega) (by omega)]; rfl) | (exact congrArg bv hx6)) ?_)
         ·repeat (first | exact SubH.nil | refine SubH.cons rfl (by first | rfl | (rw [wrap64 (by omega) (by omega)]; rfl) | (exact congrArg bv hx6)) ?_)
        ·skip
         have hx6 : (x.1 == 6) = decide (x.1 < 7) := by
          have g6 : ¬ x.1 = 5 := by simpa using h6
          rw [Bool.eq_iff_iff, beq_iff_eq, decide_eq_true_iff]
          omega
         refine Y11 ?_;refine Y14 ?_;refine le_of ?_ ?_
         ·repeat (first | exact SubE.nil | refine SubE.cons rfl (by first | rfl | (rw [wrap64 (by omega) (by omega)]; rfl) | (exact congrArg bv hx6)) ?_)
         ·repeat (first | exact SubH.nil | refine SubH.cons rfl (by first | rfl | (rw [wrap64 (by omega) (by omega)]; rfl) | (exact congrArg bv hx6)) ?_)
       ·skip
        refine tQ ?_;refine Tri.cond rfl (fun h7 => ?_) (fun h7 => ?_)
        ·skip
         rw [if_pos (of_decide_eq_true h7)];refine Y1 ?_;refine s_call (two_c bs m n H d 0 (by omega) x.2 y (by omega)) ?_;refine yM ?_;refine s_call (two_c bs m n H d 0 (by omega) (m.f (d + 0) x.2 y).2.1 _ (by omega)) ?_;refine s_val (v_callD (fun _ => Ap_c _ _)) ?_;refine Y10 ?_;exact Tri.ret ⟨.inr rfl, ret1 rfl resV_cell (VImp.refl _), zO⟩
        ·skip
         rw [if_neg (of_decide_eq_false h7)];refine Y38 ?_;refine Tri.cond rfl (fun h8 => ?_) (fun h8 => ?_)
         ·skip
          rw [if_pos (eq_of_beq h8)];refine Y1 ?_;refine s_call (two_c bs m n H d 0 (by omega) x.2 y (by omega)) ?_;refine yM ?_;refine s_call (two_c bs m n H d 1 (by omega) (m.f (d + 0) x.2 y).2.1 _ (by omega)) ?_;refine s_val (v_callD (fun _ => Le_c _ _)) ?_;refine Y10 ?_;exact Tri.ret ⟨.inr rfl, ret1 rfl resV_cell (VImp.refl _), zO⟩
         ·skip
          have g8 : ¬ x.1 = 7 := by simpa using h8
          rw [if_neg g8];refine Y38 ?_;refine Tri.cond rfl (fun h9 => ?_) (fun h9 => ?_)
          ·skip
           rw [if_pos (eq_of_beq h9)];refine Y28 ?_;refine s_call (from_c bs 1 5 x.2 (by omega)) ?_;refine yM ?_;refine s_call (two_c bs m n H d 0 (by omega) (fromM bs 1 5 x.2).2 y (by omega)) ?_;refine yM ?_;refine s_call (two_c bs m n H d 0 (by omega) (m.f (d + 0) (fromM bs 1 5 x.2).2 y).2.1 _ (by omega)) ?_;refine s_val (v_callD (fun _ => Pr_c _ _ _)) ?_;refine Y10 ?_;exact Tri.ret ⟨.inr rfl, ret1 rfl resV_cell (VImp.refl _), zO⟩
          ·skip
           have g9 : ¬ x.1 = 8 := by simpa using h9
           rw [if_neg g9];refine Y38 ?_;refine Tri.cond rfl (fun h10 => ?_) (fun h10 => ?_)
           ·skip
            rw [if_pos (eq_of_beq h10)];refine Y28 ?_;refine s_call (pick_c bs 11 3 x.2 (by omega)) ?_;refine yL ?_;refine Y13 ?_;refine s_call (less_c bs 2 (pickM bs 11 3 x.2).2 (by omega)) ?_;refine yM ?_;refine s_call (two_c bs m n H d 0 (by omega) (lessM bs 2 (pickM bs 11 3 x.2).2).2 y (by omega)) ?_;refine s_val (v_callD (fun _ => Ask_c (pickM bs 11 3 x.2).1 _ _)) ?_;refine Y25 ?_;exact Tri.ret ⟨.inr rfl, ret1 rfl resV_cell (VImp.refl _), zO⟩
           ·skip
            have g10 : ¬ x.1 = 9 := by simpa using h10
            rw [if_neg g10];refine Y38 ?_;refine Tri.cond rfl (fun h11 => ?_) (fun h11 => ?_)
            ·skip
             rw [if_pos (eq_of_beq h11)]
             obtain ⟨r, hr⟩ : ∃ r, r = pickM bs 11 3 x.2 := ⟨_, rfl⟩
             have hbr : Bd r.2 y (k - 1998) := hr ▸ Bd.mono (inferInstance : Bd (pickM bs 11 3 x.2).2 y (k - 1999 + 1)) (by omega)
             rw [← hr]
             obtain ⟨e, he⟩ : ∃ e, e = m.f (d + 0) r.2 y := ⟨_, rfl⟩
             have hbe : Bd e.2.1 e.2.2 (k - 1898) := he ▸ Bd.mono (inferInstance : Bd (m.f (d + 0) r.2 y).2.1 (m.f (d + 0) r.2 y).2.2 (k - 1998 + 100)) (by omega)
             have hle : Lt e.2.2 n := he ▸ inferInstance
             obtain ⟨g, hg⟩ : ∃ g, g = m.f (d + 1) e.2.1 e.2.2 := ⟨_, rfl⟩
             have hbg : Bd g.2.1 g.2.2 (k - 1798) := hg ▸ Bd.mono (inferInstance : Bd (m.f (d + 1) e.2.1 e.2.2).2.1 (m.f (d + 1) e.2.1 e.2.2).2.2 (k - 1898 + 100)) (by omega)
             have hlg : Lt g.2.2 n := hg ▸ inferInstance
             obtain ⟨c, hc⟩ : ∃ c, c = lessM bs 3 g.2.1 := ⟨_, rfl⟩
             have hbc : Bd c.2 g.2.2 (k - 1797) := hc ▸ Bd.mono (inferInstance : Bd (lessM bs 3 g.2.1).2 g.2.2 (k - 1798 + 1)) (by omega)
             have hcb : 0 ≤ c.1 ∧ c.1 < 3 := hc ▸ less_b bs g.2.1 (n := 3) (by decide)
             rw [← he, ← hg, ← hc]
             have hbk (i : Nat) (hi : i ≤ 2) : Bd (scL m (d + 2) c.2 g.2.2 i).2.1 (scL m (d + 2) c.2 g.2.2 i).2.2 (k - 1000) := Bd.mono (scL_bd m (d + 2) c.2 g.2.2 (k - 1797) i) (by omega)
             have hlk (i : Nat) : Lt (scL m (d + 2) c.2 g.2.2 i).2.2 n := hlg.dn (scL_dn m (d + 2) c.2 g.2.2 g.2.2 i)
             refine Y28 ?_;refine s_call (pick_c bs 11 3 x.2 (by omega)) ?_;refine yM ?_;rw [← hr];refine s_call (two_c bs m n H d 0 (by omega) r.2 y (by omega)) ?_;refine yM ?_;rw [← he];refine s_call (two_c bs m n H d 1 (by omega) e.2.1 e.2.2 (by omega)) ?_;rw [← hg];refine s_sl SS ?_;refine s_val (v_callD (fun _ => HaX_c r.1 [e.1, g.1])) ?_;refine s_alloc SS 9 ?_;refine yS ?_;refine e_seqN [9] ?_;refine Y28 ?_;refine s_call (less_c bs 3 g.2.1 (by omega)) ?_;refine yJ ?_;refine e_seq ?_;rw [← hc];refine tQ ?_
             refine Tri.block (Tri.loopW (σ := {i : Nat // i ≤ c.1.toNat}) (fun i => ⟨[(3, .ptr 3 [] 172), (4, .ptr 4 [] 3), (5, .ptr 5 [] 3), (6, .ptr 6 [] 32), (7, .fn (.func 205) [] [.ptr 3 [] 172, .ptr 4 [] 3, .ptr 5 [] 3]), (9, .ptr 9 [] 32), (153, iv .i64 c.1), (154, iv .i64 i.1)], [(6, .var 32 (.agg 32 [iv .i64 0, iv .i64 0, .pu (refP Z32), .nilc, .nilc])), (9, .var 32 (.agg 32 [iv .i64 12, iv .i64 0, .pu (refP r.1), .ow 0 32 (tmsc 0 (e.1 :: g.1 :: (scL m (d + 2) c.2 g.2.2 i.1).1)), .nilc]))] ++ scR d ++ mkO bs (scL m (d + 2) c.2 g.2.2 i.1).2.1 (scL m (d + 2) c.2 g.2.2 i.1).2.2⟩) (fun i => c.1.toNat - i.1) ⟨0, Nat.zero_le _⟩ ?_ ?_ (fun i => ?_))
             ·exact zW
             ·exact zW
             refine Y31 ?_;refine Tri.cond rfl (fun h12 => ?_) (fun h12 => ?_)
             ·skip
              have hi : i.1 < c.1.toNat := by have := of_decide_eq_true h12; omega
              have hbi := hbk i.1 (by omega)
              have hli := hlk i.1
              have hll := scL_len m (d + 2) c.2 g.2.2 i.1
              have hts : tmsc 0 (e.1 :: g.1 :: (scL m (d + 2) c.2 g.2.2 (i.1 + 1)).1) = tmsc 0 (e.1 :: g.1 :: (scL m (d + 2) c.2 g.2.2 i.1).1) ++ [tmc 0 (m.f (d + 2) (scL m (d + 2) c.2 g.2.2 i.1).2.1 (scL m (d + 2) c.2 g.2.2 i.1).2.2).1] := tms_app (e.1 :: g.1 :: (scL m (d + 2) c.2 g.2.2 i.1).1) [_]
              refine Tri.skip ?_;refine tQ ?_;refine Tri.block ?_;refine Y23 ?_;refine yM ?_;refine s_call (two_c bs m n H d 2 (by omega) (scL m (d + 2) c.2 g.2.2 i.1).2.1 _ (by omega)) ?_;refine yZ ?_;refine s_app2 9 [3] ?_ ?_
              ·simp [tms_eq]; omega
              refine yF ?_;refine yW ?_;refine e_draw ?_;refine Y27 ?_
              refine ⟨⟨i.1 + 1, hi⟩, by show c.1.toNat - (i.1 + 1) < c.1.toNat - i.1; omega, le_of ?_ ?_⟩
              ·repeat (first | exact SubE.nil | refine SubE.cons rfl (by first | rfl | (rw [wrap64 (by omega) (by omega)]; rfl) | ((rw [hts]; rfl))) ?_)
              ·repeat (first | exact SubH.nil | refine SubH.cons rfl (by first | rfl | (rw [wrap64 (by omega) (by omega)]; rfl) | ((rw [hts]; rfl))) ?_)
             ·skip
              have hi : i.1 = c.1.toNat := by have := of_decide_eq_false h12; have := i.2; omega
              rw [hi];refine Tri.exit ?_;refine Y57 ?_;exact Tri.ret ⟨.inr rfl, ret1 rfl resV_cell (ToPu.imp (by repeat constructor)), zO⟩
            ·skip
             have g11 : ¬ x.1 = 10 := by simpa using h11
             rw [if_neg g11];refine Y38 ?_;refine Tri.cond rfl (fun h13 => ?_) (fun h13 => ?_)
             ·skip
              rw [if_pos (eq_of_beq h13)]
              obtain ⟨e, he⟩ : ∃ e, e = m.f (d + 0) x.2 y := ⟨_, rfl⟩
              have hbe : Bd e.2.1 e.2.2 (k - 1899) := he ▸ Bd.mono (inferInstance : Bd (m.f (d + 0) x.2 y).2.1 (m.f (d + 0) x.2 y).2.2 (k - 1999 + 100)) (by omega)
              have hle : Lt e.2.2 n := he ▸ inferInstance
              obtain ⟨c, hc⟩ : ∃ c, c = lessM bs 3 e.2.1 := ⟨_, rfl⟩
              have hbc : Bd c.2 e.2.2 (k - 1898) := hc ▸ Bd.mono (inferInstance : Bd (lessM bs 3 e.2.1).2 e.2.2 (k - 1899 + 1)) (by omega)
              have hcb : 0 ≤ c.1 ∧ c.1 < 3 := hc ▸ less_b bs e.2.1 (n := 3) (by decide)
              rw [← he, ← hc]
              have hbk (i : Nat) (hi : i ≤ 2) : Bd (caL bs m d c.2 e.2.2 i).2.1 (caL bs m d c.2 e.2.2 i).2.2 (k - 1000) := Bd.mono (caL_bd bs m d c.2 e.2.2 (k - 1898) i) (by omega)
              have hlk (i : Nat) : Lt (caL bs m d c.2 e.2.2 i).2.2 n := hle.dn (caL_dn bs m d c.2 e.2.2 e.2.2 i)
              refine Y1 ?_;refine s_call (two_c bs m n H d 0 (by omega) x.2 y (by omega)) ?_;rw [← he];refine s_val (v_callD (fun _ => MaN_c e.1)) ?_;refine s_alloc SS 10 ?_;refine yS ?_;refine e_seqN [10] ?_;refine Y28 ?_;refine s_call (less_c bs 3 e.2.1 (by omega)) ?_;refine yJ ?_;refine e_seq ?_;rw [← hc];refine tQ ?_
              refine Tri.block (Tri.loopW (σ := {i : Nat // i ≤ c.1.toNat}) (fun i => ⟨[(3, .ptr 3 [] 172), (4, .ptr 4 [] 3), (5, .ptr 5 [] 3), (6, .ptr 6 [] 32), (7, .fn (.func 205) [] [.ptr 3 [] 172, .ptr 4 [] 3, .ptr 5 [] 3]), (10, .ptr 10 [] 32), (175, iv .i64 c.1), (176, iv .i64 i.1)], [(6, .var 32 (.agg 32 [iv .i64 0, iv .i64 0, .pu (refP Z32), .nilc, .nilc])), (10, .var 32 (.agg 32 [iv .i64 9, iv .i64 0, .pu (refP Z32), .xs 0 32 [tmc 0 e.1], .ow 0 106 (cssc 0 (caL bs m d c.2 e.2.2 i.1).1)]))] ++ scR d ++ mkO bs (caL bs m d c.2 e.2.2 i.1).2.1 (caL bs m d c.2 e.2.2 i.1).2.2⟩) (fun i => c.1.toNat - i.1) ⟨0, Nat.zero_le _⟩ ?_ ?_ (fun i => ?_))
              ·exact zW
              ·exact zW
              refine Y31 ?_;refine Tri.cond rfl (fun h14 => ?_) (fun h14 => ?_)
              ·skip
               have hi : i.1 < c.1.toNat := by have := of_decide_eq_true h14; omega
               have hbi := hbk i.1 (by omega)
               have hli := hlk i.1
               have hll := caL_len bs m d c.2 e.2.2 i.1
               have hts : cssc 0 (caL bs m d c.2 e.2.2 (i.1 + 1)).1 = cssc 0 (caL bs m d c.2 e.2.2 i.1).1 ++ [csec 0 (.mk (patMk bs 2 (caL bs m d c.2 e.2.2 i.1).2.1).1 (m.f (d + bindsM (patMk bs 2 (caL bs m d c.2 e.2.2 i.1).2.1).1) (patMk bs 2 (caL bs m d c.2 e.2.2 i.1).2.1).2 (caL bs m d c.2 e.2.2 i.1).2.2).1)] := csz_app (caL bs m d c.2 e.2.2 i.1).1 [_]
               have hpk := pat_pk bs 2 (caL bs m d c.2 e.2.2 i.1).2.1
               have hps := pat_size bs 2 7 (by omega) (caL bs m d c.2 e.2.2 i.1).2.1
               have hpb := binds_bound (patMk bs 2 (caL bs m d c.2 e.2.2 i.1).2.1).1
               refine Tri.skip ?_;refine tQ ?_;refine Tri.block ?_;refine Y28 ?_;refine s_call (pat2_c bs (caL bs m d c.2 e.2.2 i.1).2.1 (by omega)) ?_;refine s_alloc SS 11 ?_;refine yS ?_;refine e_seqN [11] ?_;refine Y23 ?_;refine yL ?_;refine Y30 ?_;refine s_val (v_callD (fun _ => kbinds_c 7 _ hpk hps (by omega))) ?_;refine s_call (two_c bs m n H d (bindsM (patMk bs 2 (caL bs m d c.2 e.2.2 i.1).2.1).1) (by omega) (patMk bs 2 (caL bs m d c.2 e.2.2 i.1).2.1).2 _ (by omega)) ?_;refine s_val (v_callD (fun _ => Ca_c _ _)) ?_;refine yZ ?_;refine s_app2 10 [4] ?_ ?_
               ·simp [css_eq]; omega
               refine yF ?_;refine yW ?_;refine e_draw ?_;refine Y27 ?_
               refine ⟨⟨i.1 + 1, hi⟩, by show c.1.toNat - (i.1 + 1) < c.1.toNat - i.1; omega, le_of ?_ ?_⟩
               ·repeat (first | exact SubE.nil | refine SubE.cons rfl (by first | rfl | (rw [wrap64 (by omega) (by omega)]; rfl) | ((rw [hts]; rfl))) ?_)
               ·repeat (first | exact SubH.nil | refine SubH.cons rfl (by first | rfl | (rw [wrap64 (by omega) (by omega)]; rfl) | ((rw [hts]; rfl))) ?_)
              ·skip
               have hi : i.1 = c.1.toNat := by have := of_decide_eq_false h14; have := i.2; omega
               rw [hi];refine Tri.exit ?_;refine Y57 ?_;exact Tri.ret ⟨.inr rfl, ret1 rfl resV_cell (ToPu.imp (by repeat constructor)), zO⟩
             ·skip
              have g13 : ¬ x.1 = 11 := by simpa using h13
              rw [if_neg g13]
              obtain ⟨r, hr⟩ : ∃ r, r = pickM bs 1 4 x.2 := ⟨_, rfl⟩
              have hbr : Bd r.2 y (k - 1998) := hr ▸ Bd.mono (inferInstance : Bd (pickM bs 1 4 x.2).2 y (k - 1999 + 1)) (by omega)
              rw [← hr]
              obtain ⟨e, he⟩ : ∃ e, e = lessM bs 3 r.2 := ⟨_, rfl⟩
              have hbe : Bd e.2 y (k - 1997) := he ▸ Bd.mono (inferInstance : Bd (lessM bs 3 r.2).2 y (k - 1998 + 1)) (by omega)
              obtain ⟨c, hc⟩ : ∃ c, c = lessM bs 3 e.2 := ⟨_, rfl⟩
              have hbc : Bd c.2 y (k - 1996) := hc ▸ Bd.mono (inferInstance : Bd (lessM bs 3 e.2).2 y (k - 1997 + 1)) (by omega)
              have hcb : 0 ≤ c.1 ∧ c.1 < 3 := hc ▸ less_b bs e.2 (n := 3) (by decide)
              rw [← he, ← hc]
              have hbk (i : Nat) (hi : i ≤ 2) : Bd (scL m (d + 0) c.2 y i).2.1 (scL m (d + 0) c.2 y i).2.2 (k - 1000) := Bd.mono (scL_bd m (d + 0) c.2 y (k - 1996) i) (by omega)
              have hlk (i : Nat) : Lt (scL m (d + 0) c.2 y i).2.2 n := hly.dn (scL_dn m (d + 0) c.2 y y i)
              refine Tri.skip ?_;refine Y28 ?_;refine s_call (pick_c bs 1 4 x.2 (by omega)) ?_;refine yL ?_;refine Y13 ?_;rw [← hr];refine s_call (less_c bs 3 r.2 (by omega)) ?_;rw [← he];refine s_val (v_callD (fun _ => CoN_c r.1 e.1)) ?_;refine s_alloc SS 12 ?_;refine yS ?_;refine e_drawN [12] ?_;refine Y28 ?_;refine s_call (less_c bs 3 e.2 (by omega)) ?_;refine yJ ?_;refine e_seq ?_;rw [← hc];refine tQ ?_
              refine Tri.block (Tri.loopW (σ := {i : Nat // i ≤ c.1.toNat}) (fun i => ⟨[(3, .ptr 3 [] 172), (4, .ptr 4 [] 3), (5, .ptr 5 [] 3), (6, .ptr 6 [] 32), (7, .fn (.func 205) [] [.ptr 3 [] 172, .ptr 4 [] 3, .ptr 5 [] 3]), (12, .ptr 12 [] 32), (211, iv .i64 c.1), (212, iv .i64 i.1)], [(6, .var 32 (.agg 32 [iv .i64 0, iv .i64 0, .pu (refP Z32), .nilc, .nilc])), (12, .var 32 (.agg 32 [iv .i64 8, iv .i64 e.1, .pu (refP r.1), .ow 0 32 (tmsc 0 (scL m (d + 0) c.2 y i.1).1), .nilc]))] ++ scR d ++ mkO bs (scL m (d + 0) c.2 y i.1).2.1 (scL m (d + 0) c.2 y i.1).2.2⟩) (fun i => c.1.toNat - i.1) ⟨0, Nat.zero_le _⟩ ?_ ?_ (fun i => ?_))
              ·exact zW
              ·exact zW
              refine Y31 ?_;refine Tri.cond rfl (fun h15 => ?_) (fun h15 => ?_)
              ·skip
               have hi : i.1 < c.1.toNat := by have := of_decide_eq_true h15; omega
               have hbi := hbk i.1 (by omega)
               have hli := hlk i.1
               have hll := scL_len m (d + 0) c.2 y i.1
               have hts : tmsc 0 (scL m (d + 0) c.2 y (i.1 + 1)).1 = tmsc 0 (scL m (d + 0) c.2 y i.1).1 ++ [tmc 0 (m.f (d + 0) (scL m (d + 0) c.2 y i.1).2.1 (scL m (d + 0) c.2 y i.1).2.2).1] := tms_app (scL m (d + 0) c.2 y i.1).1 [_]
               refine Tri.skip ?_;refine tQ ?_;refine Tri.block ?_;refine Y23 ?_;refine yM ?_;refine s_call (two_c bs m n H d 0 (by omega) (scL m (d + 0) c.2 y i.1).2.1 _ (by omega)) ?_;refine yZ ?_;refine s_app2 12 [3] ?_ ?_
               ·rw [tms_length, hll]; simp; omega
               refine yF ?_;refine yW ?_;refine e_draw ?_;refine Y27 ?_
               refine ⟨⟨i.1 + 1, hi⟩, by show c.1.toNat - (i.1 + 1) < c.1.toNat - i.1; omega, le_of ?_ ?_⟩
               ·repeat (first | exact SubE.nil | refine SubE.cons rfl (by first | rfl | (rw [wrap64 (by omega) (by omega)]; rfl) | ((rw [hts]; rfl))) ?_)
               ·repeat (first | exact SubH.nil | refine SubH.cons rfl (by first | rfl | (rw [wrap64 (by omega) (by omega)]; rfl) | ((rw [hts]; rfl))) ?_)
              ·skip
               have hi : i.1 = c.1.toNat := by have := of_decide_eq_false h15; have := i.2; omega
               rw [hi];refine Tri.exit ?_;refine Y57 ?_;exact Tri.ret ⟨.inr rfl, ret1 rfl resV_cell (ToPu.imp (by repeat constructor)), zO⟩
theorem scoped_c : ∀ n : Nat, ScC bs (scopedMk bs n) n
 | 0 => fun d s l k h hl hd hdn hk => by
  have hl0 := hl.h
  have hl1 : l - 1 ≤ 0 := by omega
  have e : (scopedMk bs 0).f d s l = scAll bs idleK (lowK bs (l - 1) s).1 d (lowK bs (l - 1) s).2 (l - 1) := by simp only [scopedMk, if_pos hl1]
  rw [e];exact scopedN_c bs idleK 0 d s l k (by omega) hk (fun h0 => by omega)
 | n + 1 => fun d s l k h hl hd hdn hk => by
  have hl0 := hl.h
  exact scopedN_c bs (scopedMk bs n) n d s l k (by omega) hk (fun h0 => ⟨scoped_c n, ⟨by push_cast at hl0; omega⟩, by push_cast at hdn; omega⟩)
def scopM (size : Nat) (s : Sd) : Tm × Sd := (((scopedMk bs size).f 0 s size).1, ((scopedMk bs size).f 0 s size).2.1)
theorem scop_c (size : Nat) (hs : size ≤ 30) (s : Sd) (h0 : 0 ≤ s.a ∧ s.a ≤ 1000000) :
  HCall Tryz.prog gL 78 [.ptr 950 [] 171, iv .i64 0, iv .i64 0, iv .i64 size] [] (stO bs s) (.pu (tmc 0 (scopM bs size s).1)) (stO bs (scopM bs size s).2) [] := by
 have hbd : Bd s size 0 := ⟨by omega⟩
 have hlt : Lt (size : Int) size := ⟨Int.le_refl _⟩
 refine HCall.of_triD tbl 18 [950] Tryz.func78 rfl rfl rfl fun w0 M ρ0 D0 => ?_
 simp only [scopM]
 refine yR ?_;refine s_alloc SS 8 ?_;refine e_seqN [8] ?_;refine Y29 ?_;refine yP ?_;refine s_box SS 951 ?_;refine yA ?_;refine e_seqN [951] ?_;refine Y1 ?_;refine Y21 ?_;refine s_call (scoped_c bs size 0 s size 0 (by omega) (by omega) (by omega)) ?_;refine Y10 ?_;exact Tri.ret ⟨.inr rfl, ret1 rfl resV_cell (VImp.refl _), zO⟩
end Go.Proofs.YtkcgkignhpepkaaGreatDoor

/- How large the terms are that are made. -/
namespace Go.Proofs.YtkcgkignhpepkaaGreatDoor
open Go Hs
class Zs (t : Tm) (c : outParam Int) : Prop where
 h : (tsize t : Int) ≤ c
class ZL (t : List Tm) (c : outParam Int) : Prop where
 h : (tsizeL t : Int) ≤ c
class ZC (t : List Cs) (c : outParam Int) : Prop where
 h : (csizeL t : Int) ≤ c
class ZP (p : Pat) (c : outParam Int) : Prop where
 h : (psize p : Int) ≤ c
theorem Zs.mono {t : Tm} {c c' : Int} (h : Zs t c) (hc : c ≤ c') : (tsize t : Int) ≤ c' := Int.le_trans h.h hc
instance : ZL [] 0 := ⟨by simp [tsizeL]⟩
instance (t : Tm) (ks : List Tm) (c d : Int) [h : Zs t c] [k : ZL ks d] : ZL (t :: ks) (c + d) := ⟨by have := h.h; have := k.h; simp only [tsizeL]; omega⟩
instance : ZC [] 0 := ⟨by simp [csizeL]⟩
instance (p : Pat) (t : Tm) (ks : List Cs) (b c d : Int) [g : ZP p b] [h : Zs t c] [k : ZC ks d] : ZC (.mk p t :: ks) (b + c + d) := ⟨by have := g.h; have := h.h; have := k.h; simp only [csizeL, csize]; omega⟩
instance : ZP anyM 1 := ⟨by simp [anyM, psize, psizeL]⟩
instance (n : Int) : ZP (pnM n) 1 := ⟨by simp [pnM, psize, psizeL]⟩
instance (r : List Int) (n : Int) : ZP (pcM r n []) 1 := ⟨by simp [pcM, psize, psizeL]⟩
instance (r : List Int) (n : Int) (p : Pat) (c : Int) [h : ZP p c] : ZP (pcM r n [p]) (1 + c) := ⟨by have := h.h; simp only [pcM, psize, psizeL]; omega⟩
instance (r : List Int) (n : Int) (p q : Pat) (c d : Int) [h : ZP p c] [k : ZP q d] : ZP (pcM r n [p, q]) (1 + c + d) := ⟨by have := h.h; have := k.h; simp only [pcM, psize, psizeL]; omega⟩
instance (n : Int) : Zs (vaM n) 1 := ⟨by simp [vaM, tsize, tsizeL, csizeL]⟩
instance (n : Int) : Zs (nuM n) 1 := ⟨by simp [nuM, tsize, tsizeL, csizeL]⟩
instance (r : List Int) : Zs (deM r) 1 := ⟨by simp [deM, tsize, tsizeL, csizeL]⟩
instance : Zs zeroM 1 := ⟨by simp [zeroM, tsize, tsizeL, csizeL]⟩
instance (t : Tm) (c : Int) [h : Zs t c] : Zs (laM t) (1 + c) := ⟨by have := h.h; simp only [laM, tsize, tsizeL, csizeL]; omega⟩
instance (s t : Tm) (c d : Int) [h : Zs s c] [k : Zs t d] : Zs (apM s t) (1 + c + d) := ⟨by have := h.h; have := k.h; simp only [apM, tsize, tsizeL, csizeL]; omega⟩
instance (s t : Tm) (c d : Int) [h : Zs s c] [k : Zs t d] : Zs (leM s t) (1 + c + d) := ⟨by have := h.h; have := k.h; simp only [leM, tsize, tsizeL, csizeL]; omega⟩
instance (n : Int) (s t : Tm) (c d : Int) [h : Zs s c] [k : Zs t d] : Zs (prM n s t) (1 + c + d) := ⟨by have := h.h; have := k.h; simp only [prM, tsize, tsizeL, csizeL]; omega⟩
instance (r : List Int) (n : Int) (t : Tm) (c : Int) [h : Zs t c] : Zs (doT r n t) (1 + c) := ⟨by have := h.h; simp only [doT, tsize, tsizeL, csizeL]; omega⟩
instance (r : List Int) (n : Int) (ks : List Tm) (c : Int) [h : ZL ks c] : Zs (coM r n ks) (1 + c) := ⟨by have := h.h; simp only [coM, tsize, csizeL]; omega⟩
instance (t : Tm) (cs : List Cs) (c d : Int) [h : Zs t c] [k : ZC cs d] : Zs (maM t cs) (1 + c + d) := ⟨by have := h.h; have := k.h; simp only [maM, tsize, tsizeL]; omega⟩
variable (bs : List Int)
theorem kn_all (v : List Ty) (t : Ty) (i : Nat) : ∀ x ∈ knM v t i, ∃ j : Nat, j < v.length ∧ x = vaM ((v.length : Int) - 1 - j) := by
 intro x hx
 unfold knM at hx
 rw [List.mem_filterMap] at hx
 obtain ⟨j, _, hj⟩ := hx
 split at hj
 ·rename_i u hu
  split at hj
  ·simp at hj
   exact ⟨j, (List.getElem?_eq_some_iff.1 hu).1, hj.symm⟩
  ·cases hj
 ·cases hj
theorem held_var {v : List Ty} {t : Ty} {s : Sd} (h : (heldM bs v t s).1.2 = true) : ∃ j : Nat, j < v.length ∧ (heldM bs v t s).1.1 = vaM ((v.length : Int) - 1 - j) := by
 unfold heldM at h ⊢
 split at h
 ·cases h
 ·rename_i hl
  rw [if_neg hl]
  have hb := less_b bs s (n := ((knM v t v.length).length : Int)) (by omega)
  have hlt : (lessM bs (knM v t v.length).length s).1.toNat < (knM v t v.length).length := by omega
  have := kn_all v t v.length ((knM v t v.length)[(lessM bs (knM v t v.length).length s).1.toNat]'hlt) (List.getElem_mem _)
  simp only [List.getD_eq_getElem?_getD, List.getElem?_eq_getElem hlt, Option.getD_some]
  exact this
theorem held_z (v : List Ty) (t : Ty) (s : Sd) (h : (heldM bs v t s).1.2 = true) : (tsize (heldM bs v t s).1.1 : Int) ≤ 1 := by
 obtain ⟨j, _, e⟩ := held_var bs h
 rw [e]
 simp [vaM, tsize, tsizeL, csizeL]
theorem keep_z (v : List Ty) (t : Ty) (base : Sd → Tm × Sd) (c : Int) (hc : 1 ≤ c) (hb : ∀ s, (tsize (base s).1 : Int) ≤ c) (s : Sd) : (tsize (keepM bs v t base s).1 : Int) ≤ c := by
 unfold keepM
 split
 ·rename_i h
  split
  ·have := held_z bs v t s h; simp only; omega
  ·exact hb _
 ·exact hb _
theorem base0_z (x : BT) (s : Sd) : (tsize (base0M bs x s).1 : Int) ≤ 1 := by
 cases x <;> simp [base0M, nuM, coM, tsize, tsizeL, csizeL]
theorem leaf0_z (x : BT) (v : List Ty) (s : Sd) : (tsize (leaf0M bs x v s).1 : Int) ≤ 1 := keep_z bs v _ _ 1 (by omega) (base0_z bs x) s
instance (x : BT) (v : List Ty) (s : Sd) : Zs (leaf0M bs x v s).1 1 := ⟨leaf0_z bs x v s⟩
theorem leaf_z (t : TT) (v : List Ty) (s : Sd) : (tsize (leafM bs t v s).1 : Int) ≤ 3 := by
 refine keep_z bs v _ _ 3 (by omega) (fun s => ?_) s
 cases t with
 | ba x => have := base0_z bs x s; simp only [base1M]; omega
 | li x => exact Zs.mono (inferInstance : Zs (coM (sumR 2) 0 []) _) (by omega)
 | op x => exact Zs.mono (inferInstance : Zs (coM (sumR 4) 0 []) _) (by omega)
 | pa x y => simp only [base1M]; (refine Zs.mono inferInstance ?_; (try dsimp only); omega)
 | fn x => simp only [base1M]; (refine Zs.mono inferInstance ?_; (try dsimp only); omega)
class Mz (m : Mk) : Prop where
 h : ∀ t v a s l, (tsize (m.f t v a s l).1 : Int) ≤ 100 + 2000 * max l 0 - 2000 * max (m.f t v a s l).2.2 0
variable (m : Mk) [hm : Mz m]
instance (t : TT) (v : List Ty) (a : List AB) (s : Sd) (l : Int) : Zs (m.f t v a s l).1 (100 + 2000 * max l 0 - 2000 * max (m.f t v a s l).2.2 0) := ⟨hm.h t v a s l⟩
theorem made_z (t : TT) (v : List Ty) (a : List AB) (s : Sd) (l : Int) : (tsize (madeM bs m t v a s l).1 : Int) ≤ 210 + 2000 * max l 0 - 2000 * max (madeM bs m t v a s l).2.2 0 := by
 cases t with
 | ba x =>
  cases x <;> simp only [madeM] <;> repeat' split
  all_goals (refine Zs.mono inferInstance ?_; (try dsimp only); omega)
 | li x => simp only [madeM]; split <;> (refine Zs.mono inferInstance ?_; (try dsimp only); omega)
 | op x => simp only [madeM]; split <;> (refine Zs.mono inferInstance ?_; (try dsimp only); omega)
 | pa x y => simp only [madeM]; (refine Zs.mono inferInstance ?_; (try dsimp only); omega)
 | fn x => simp only [madeM]; (refine Zs.mono inferInstance ?_; (try dsimp only); omega)
instance (t : TT) (v : List Ty) (a : List AB) (s : Sd) (l : Int) : Zs (madeM bs m t v a s l).1 (210 + 2000 * max l 0 - 2000 * max (madeM bs m t v a s l).2.2 0) := ⟨made_z bs m t v a s l⟩
theorem ask_z (t : TT) (v : List Ty) (a : List AB) (s : Sd) (l : Int) : (tsize (askMk bs m t v a s l).1.1 : Int) ≤ 110 + 2000 * max l 0 - 2000 * max (askMk bs m t v a s l).2.2 0 := by
 simp only [askMk]
 repeat' split
 all_goals (refine Zs.mono inferInstance ?_; (try dsimp only); omega)
theorem match_z (t : TT) (v : List Ty) (a : List AB) (s : Sd) (l : Int) : (tsize (matchMk bs m t v a s l).1 : Int) ≤ 420 + 2000 * max l 0 - 2000 * max (matchMk bs m t v a s l).2.2 0 := by
 simp only [matchMk]
 repeat' split
 all_goals (refine Zs.mono inferInstance ?_; (try dsimp only); omega)
theorem clause_z [hml : Ml m] (t : TT) (v : List Ty) (a : List AB) (b : BT) (s : Sd) (l : Int) : (tsize (clauseM bs m t v a b s l).1 : Int) ≤ 310 + 2000 * max l 0 - 2000 * max (clauseM bs m t v a b s l).2.2 0 := by
 have h1 := hml.h t (v ++ [natY, lostY]) a s l
 simp only [clauseM]
 repeat' split
 all_goals (refine Zs.mono inferInstance ?_; (try dsimp only); omega)
theorem clauses_z [hml : Ml m] (t : TT) (v : List Ty) (a : List AB) (b : BT) (s : Sd) (l : Int) : ∀ i : Nat, (tsizeL (clausesM bs m t v a b s l i).1 : Int) ≤ 310 * i + 2000 * max l 0 - 2000 * max (clausesM bs m t v a b s l i).2.2 0
 | 0 => by simp [clausesM, tsizeL]
 | i + 1 => by
  have h1 := clauses_z t v a b s l i
  have h2 := clause_z bs m t v a b (clausesM bs m t v a b s l i).2.1 (clausesM bs m t v a b s l i).2.2
  have h3 (x y : List Tm) : tsizeL (x ++ y) = tsizeL x + tsizeL y := by
   induction x with
   | nil => simp [tsizeL]
   | cons z x ih => simp only [List.cons_append, tsizeL, ih]; omega
  simp only [clausesM, h3, tsizeL]
  push_cast
  omega
theorem handle_z [hml : Ml m] (t : TT) (v : List Ty) (a : List AB) (s : Sd) (l : Int) : (tsize (handleMk bs m t v a s l).1 : Int) ≤ 900 + 2000 * max l 0 - 2000 * max (handleMk bs m t v a s l).2.2 0 := by
 simp only [handleMk]
 split
 ·(refine Zs.mono inferInstance ?_; (try dsimp only); omega)
 ·generalize (if abM (lessM bs 3 s).1 ∈ a then a else a ++ [abM (lessM bs 3 s).1]) = a'
  generalize (if abM (lessM bs 3 s).1 = .fl then BT.b else .n) = b'
  have hn : ((if abM (lessM bs 3 s).1 = .st then 2 else 1 : Nat) : Int) ≤ 2 := by split <;> simp
  generalize (if abM (lessM bs 3 s).1 = .st then 2 else 1 : Nat) = i at hn
  generalize hu : plain0M bs (seldomM bs 4 (lessM bs 3 s).2).2 = u
  have h1 := hm.h (.ba u.1) v a' u.2 l
  generalize m.f (.ba u.1) v a' u.2 l = e at h1
  have h2 := hm.h t (v ++ [u.1.ty]) a e.2.1 e.2.2
  generalize m.f t (v ++ [u.1.ty]) a e.2.1 e.2.2 = g at h2
  have h3 := clauses_z bs m t v a b' g.2.1 g.2.2 i
  simp only [haM, tsize, tsizeL, csizeL]
  push_cast
  omega
theorem node_z [hml : Ml m] (t : TT) (v : List Ty) (a : List AB) (s : Sd) (l : Int) : (tsize (nodeM bs m t v a s l).1 : Int) ≤ 1000 + 2000 * max l 0 - 2000 * max (nodeM bs m t v a s l).2.2 0 := by
 have hdn := (inferInstance : Dn (askMk bs m t v a (lessM bs 10 s).2 l).2.2 l).h
 simp only [nodeM]
 split
 ·split
  ·rename_i h
   have := held_z bs v t.ty (lessM bs 10 s).2 h
   dsimp only
   omega
  ·(refine Zs.mono inferInstance ?_; (try dsimp only); omega)
 split
 ·(refine Zs.mono inferInstance ?_; (try dsimp only); omega)
 split
 ·(refine Zs.mono inferInstance ?_; (try dsimp only); omega)
 split
 ·have := match_z bs m t v a (lessM bs 10 s).2 l; omega
 split
 ·split
  ·have := ask_z bs m t v a (lessM bs 10 s).2 l
   dsimp only
   omega
  ·(refine Zs.mono inferInstance ?_; (try dsimp only); omega)
 split
 ·have := handle_z bs m t v a (lessM bs 10 s).2 l; omega
 ·(refine Zs.mono inferInstance ?_; (try dsimp only); omega)
instance term_mz : ∀ n : Nat, Mz (termMk bs n)
 | 0 => ⟨fun t v a s l => by
  have := leaf_z bs t v s
  simp only [termMk]
  omega⟩
 | n + 1 => ⟨fun t v a s l => by
  have ih := term_mz n
  simp only [termMk]
  split
  ·have := leaf_z bs t v s
   dsimp only
   omega
  ·have := node_z bs (termMk bs n) t v a s (l - 1)
   omega⟩
theorem typed_z (size : Nat) (hs : size ≤ 30) (t : TT) (a : List AB) (s : Sd) : tsize (typedM bs size t a s).1 ≤ 70000 := by
 have := (term_mz bs size).h t [] a s size
 simp only [typedM]
 omega
class Kz (m : Sk) : Prop where
 h : ∀ d s l, (tsize (m.f d s l).1 : Int) ≤ 100 + 2000 * max l 0 - 2000 * max (m.f d s l).2.2 0
variable (k : Sk) [hk : Kz k] [hc : Sc k]
instance (d : Int) (s : Sd) (l : Int) : Zs (k.f d s l).1 (100 + 2000 * max l 0 - 2000 * max (k.f d s l).2.2 0) := ⟨hk.h d s l⟩
theorem tsizeL_app (x y : List Tm) : tsizeL (x ++ y) = tsizeL x + tsizeL y := by
 induction x with
 | nil => simp [tsizeL]
 | cons z x ih => simp only [List.cons_append, tsizeL, ih]; omega
theorem csizeL_app (x y : List Cs) : csizeL (x ++ y) = csizeL x + csizeL y := by
 induction x with
 | nil => simp [csizeL]
 | cons z x ih => simp only [List.cons_append, csizeL, ih]; omega
theorem scL_z (d : Int) (s : Sd) (l : Int) : ∀ i : Nat, (tsizeL (scL k d s l i).1 : Int) ≤ 100 * i + 2000 * max l 0 - 2000 * max (scL k d s l i).2.2 0
 | 0 => by simp [scL, tsizeL]
 | i + 1 => by
  have h1 := scL_z d s l i
  have h2 := hk.h d (scL k d s l i).2.1 (scL k d s l i).2.2
  simp only [scL, tsizeL_app, tsizeL]
  push_cast
  omega
theorem caL_z (d : Int) (s : Sd) (l : Int) : ∀ i : Nat, (csizeL (caL bs k d s l i).1 : Int) ≤ 107 * i + 2000 * max l 0 - 2000 * max (caL bs k d s l i).2.2 0
 | 0 => by simp [caL, csizeL]
 | i + 1 => by
  have h1 := caL_z d s l i
  have h2 := hk.h (d + bindsM (patMk bs 2 (caL bs k d s l i).2.1).1) (patMk bs 2 (caL bs k d s l i).2.1).2 (caL bs k d s l i).2.2
  have h3 := pat_size bs 2 7 (by omega) (caL bs k d s l i).2.1
  simp only [caL, csizeL_app, csizeL, csize]
  push_cast
  omega
theorem scAll_z (x : Int) (d : Int) (s : Sd) (l : Int) : (tsize (scAll bs k x d s l).1 : Int) ≤ 600 + 2000 * max l 0 - 2000 * max (scAll bs k x d s l).2.2 0 := by
 simp only [scAll]
 split
 ·(refine Zs.mono inferInstance ?_; (try dsimp only); omega)
 split
 ·(refine Zs.mono inferInstance ?_; (try dsimp only); omega)
 split
 ·(refine Zs.mono inferInstance ?_; (try dsimp only); omega)
 split
 ·(refine Zs.mono inferInstance ?_; (try dsimp only); omega)
 split
 ·(refine Zs.mono inferInstance ?_; (try dsimp only); omega)
 split
 ·(refine Zs.mono inferInstance ?_; (try dsimp only); omega)
 split
 ·(refine Zs.mono inferInstance ?_; (try dsimp only); omega)
 split
 ·(refine Zs.mono inferInstance ?_; (try dsimp only); omega)
 split
 ·have h1 := hk.h (d + 0) (pickM bs 11 3 s).2 l
  generalize k.f (d + 0) (pickM bs 11 3 s).2 l = e at h1
  have h2 := hk.h (d + 1) e.2.1 e.2.2
  generalize k.f (d + 1) e.2.1 e.2.2 = g at h2
  have h3 := scL_z k (d + 2) (lessM bs 3 g.2.1).2 g.2.2 (lessM bs 3 g.2.1).1.toNat
  have h4 := less3 bs g.2.1
  simp only [haM, tsize, tsizeL, csizeL]
  push_cast
  omega
 split
 ·have h1 := hk.h (d + 0) s l
  generalize k.f (d + 0) s l = e at h1
  have h3 := caL_z bs k d (lessM bs 3 e.2.1).2 e.2.2 (lessM bs 3 e.2.1).1.toNat
  have h4 := less3 bs e.2.1
  simp only [maM, tsize, tsizeL]
  push_cast
  omega
 ·have h3 := scL_z k (d + 0) (lessM bs 3 (lessM bs 3 (pickM bs 1 4 s).2).2).2 l (lessM bs 3 (lessM bs 3 (pickM bs 1 4 s).2).2).1.toNat
  have h4 := less3 bs (lessM bs 3 (pickM bs 1 4 s).2).2
  simp only [coM, tsize, csizeL]
  push_cast
  omega
theorem scAll_one (m : Sk) (x : Int) (hx : x < 4) (d : Int) (s : Sd) (l : Int) : (tsize (scAll bs m x d s l).1 : Int) ≤ 1 ∧ (scAll bs m x d s l).2.2 = l := by
 unfold scAll
 split
 ·exact ⟨Zs.mono inferInstance (Int.le_refl _), rfl⟩
 split
 ·exact ⟨Zs.mono inferInstance (Int.le_refl _), rfl⟩
 ·exact ⟨Zs.mono inferInstance (Int.le_refl _), rfl⟩
instance scoped_kz : ∀ n : Nat, Kz (scopedMk bs n)
 | 0 => ⟨fun d s l => by
  simp only [scopedMk]
  split
  ·rename_i hl
   have := scAll_one bs idleK _ (low_lt bs (s := s) hl) d (lowK bs (l - 1) s).2 (l - 1)
   omega
  ·simp only [nuM, tsize, tsizeL, csizeL]
   omega⟩
 | n + 1 => ⟨fun d s l => by
  have ih := scoped_kz n
  simp only [scopedMk]
  by_cases hl : l - 1 ≤ 0
  ·have := scAll_one bs (scopedMk bs n) _ (low_lt bs (s := s) hl) d (lowK bs (l - 1) s).2 (l - 1)
   omega
  ·have := scAll_z bs (scopedMk bs n) (lowK bs (l - 1) s).1 d (lowK bs (l - 1) s).2 (l - 1)
   omega⟩
theorem scop_z (size : Nat) (hs : size ≤ 30) (s : Sd) : tsize (scopM bs size s).1 ≤ 70000 := by
 have := (scoped_kz bs size).h 0 s size
 simp only [scopM]
 omega
end Go.Proofs.YtkcgkignhpepkaaGreatDoor

/- The terms that are made are right. -/
namespace Go.Proofs.YtkcgkignhpepkaaGreatDoor
open Go Hs
class Nb (n : Int) : Prop where
 h : 0 ≤ n ∧ n ≤ 7
instance : Nb 0 := ⟨by omega⟩
instance : Nb 1 := ⟨by omega⟩
instance (bs : List Int) (s : Sd) : Nb (lessM bs 2 s).1 := ⟨by have := less_b bs s (n := 2) (by decide); omega⟩
instance (bs : List Int) (s : Sd) : Nb (lessM bs 3 s).1 := ⟨by have := less_b bs s (n := 3) (by decide); omega⟩
class Okq (p : Pat) (e : outParam Int) : Prop where
 h : perr p = 0
 b : bindsM p = e
class Okt (d : Int) (t : Tm) : Prop where
 gd : gdT d t
 lc : lcT t
class OkL (d : Int) (ks : List Tm) : Prop where
 h : ∀ x ∈ ks, Okt d x
class OkC (d : Int) (cs : List Cs) : Prop where
 gd : gdC d cs
 lc : lcC cs
theorem gdK_plain {d k : Int} (hk : ∀ i : Nat, moreM k i = 0) : ∀ {ks : List Tm} {i : Nat}, (∀ x ∈ ks, Okt d x) → gdK d k i ks
 | [], _, _ => trivial
 | t :: ts, i, h => ⟨by rw [hk, Int.add_zero]; exact (h t (by simp)).gd, gdK_plain hk fun x hx => h x (by simp [hx])⟩
theorem lcK_all {d : Int} : ∀ {ks : List Tm}, (∀ x ∈ ks, Okt d x) → lcK ks
 | [], _ => trivial
 | t :: ts, h => ⟨(h t (by simp)).lc, lcK_all fun x hx => h x (by simp [hx])⟩
instance (d : Int) : OkL d [] := ⟨by simp⟩
instance (d : Int) (t : Tm) (ks : List Tm) [h : Okt d t] [k : OkL d ks] : OkL d (t :: ks) := ⟨fun x hx => by
 rcases List.mem_cons.1 hx with rfl | hx
 ·exact h
 ·exact k.h x hx⟩
instance (d : Int) : OkC d [] := ⟨trivial, trivial⟩
instance (d : Int) (p : Pat) (e : Int) (t : Tm) (cs : List Cs) [hp : Okq p e] [h : Okt (d + e) t] [k : OkC d cs] : OkC d (.mk p t :: cs) := ⟨⟨⟨hp.h, hp.b ▸ h.gd⟩, k.gd⟩, h.lc, k.lc⟩
theorem ok_va {d n : Int} (h : 0 ≤ n ∧ n < d) : Okt d (vaM n) := ⟨by simp [vaM, gdT, gdK, gdC, kidsM]; omega, by simp [vaM, lcT, lcK, lcC, locM, clashM, offM, hasNumM]⟩
theorem ok_nu {d n : Int} (h : 0 ≤ n ∧ n ≤ 1073741824) : Okt d (nuM n) := ⟨by simp [nuM, gdT, gdK, gdC, kidsM], by simp [nuM, lcT, lcK, lcC, locM, clashM, offM, hasNumM]; omega⟩
instance (d : Int) (r : List Int) : Okt d (deM r) := ⟨by simp [deM, gdT, gdK, gdC, kidsM], by simp [deM, lcT, lcK, lcC, locM, clashM, offM, hasRefM]⟩
instance (d : Int) (t : Tm) [h : Okt (d + 1) t] : Okt d (laM t) := ⟨by simpa [laM, gdT, gdK, gdC, kidsM, moreM] using h.gd, by simpa [laM, lcT, lcK, lcC, locM, clashM, offM] using h.lc⟩
instance (d : Int) (s t : Tm) [h : Okt d s] [k : Okt d t] : Okt d (apM s t) := ⟨by simpa [apM, gdT, gdK, gdC, kidsM, moreM] using ⟨h.gd, k.gd⟩, by simpa [apM, lcT, lcK, lcC, locM, clashM, offM] using ⟨h.lc, k.lc⟩⟩
instance (d : Int) (s t : Tm) [h : Okt d s] [k : Okt (d + 1) t] : Okt d (leM s t) := ⟨by simpa [leM, gdT, gdK, gdC, kidsM, moreM] using ⟨h.gd, k.gd⟩, by simpa [leM, lcT, lcK, lcC, locM, clashM, offM] using ⟨h.lc, k.lc⟩⟩
theorem ok_pr {d n : Int} {s t : Tm} (hn : 1 ≤ n ∧ n ≤ 5) (h : Okt d s) (k : Okt d t) : Okt d (prM n s t) := ⟨by simpa [prM, gdT, gdK, gdC, kidsM, moreM] using ⟨h.gd, k.gd⟩, by simpa [prM, lcT, lcK, lcC, locM, clashM, offM, hasNumM] using ⟨by omega, h.lc, k.lc⟩⟩
instance (bs : List Int) (s0 : Sd) (d : Int) (s t : Tm) [h : Okt d s] [k : Okt d t] : Okt d (prM (fromM bs 1 5 s0).1 s t) := ok_pr (from_b bs s0 (by decide)) h k
instance (bs : List Int) (s : Sd) (d : Int) : Okt d (nuM (lessM bs 4 s).1) := ok_nu (by have := less_b bs s (n := 4) (by decide); omega)
instance (bs : List Int) (s : Sd) (d : Int) : Okt d (nuM ([0, 1, 2, 3, 7, 1073741824].getD (lessM bs 6 s).1.toNat 0)) := ok_nu (by
 have := less_b bs s (n := 6) (by decide)
 generalize (lessM bs 6 s).1 = z at this
 obtain ⟨j, rfl⟩ := Int.eq_ofNat_of_zero_le this.1
 have hj : j < 6 := by omega
 rcases j with _ | _ | _ | _ | _ | _ | j <;> first | decide | omega)
instance (d : Int) (r : List Int) (n : Int) (t : Tm) [hn : Nb n] [h : Okt d t] : Okt d (doT r n t) := ⟨by have := hn.h; simp [doT, gdT, gdK, gdC, kidsM, moreM]; exact ⟨by omega, h.gd⟩, by have := hn.h; simp [doT, lcT, lcK, lcC, locM, clashM, offM, hasNumM, hasRefM]; exact ⟨by omega, h.lc⟩⟩
theorem ok_co {d : Int} {r : List Int} {n : Int} {ks : List Tm} (hn : 0 ≤ n ∧ n ≤ 7) (hl : ks.length ≤ 4) (h : ∀ x ∈ ks, Okt d x) : Okt d (coM r n ks) :=
 ⟨⟨by omega, by simp [kidsM]; omega, by simp, by simp, gdK_plain (fun i => by simp [moreM]) h, trivial⟩, ⟨by simp [locM, clashM, offM, hasNumM, hasRefM]; omega, lcK_all h, trivial⟩⟩
instance (d : Int) (r : List Int) (n : Int) [hn : Nb n] : Okt d (coM r n []) := ok_co hn.h (by simp) (by simp)
instance (d : Int) (r : List Int) (n : Int) (s : Tm) [hn : Nb n] [h : Okt d s] : Okt d (coM r n [s]) := ok_co hn.h (by simp) (OkL.h (ks := [s]))
instance (d : Int) (r : List Int) (n : Int) (s t : Tm) [hn : Nb n] [h : Okt d s] [k : Okt d t] : Okt d (coM r n [s, t]) := ok_co hn.h (by simp) (OkL.h (ks := [s, t]))
theorem gdK_two {d : Int} : ∀ {ks : List Tm} {i : Nat}, 2 ≤ i → (∀ x ∈ ks, Okt (d + 2) x) → gdK d 12 i ks
 | [], _, _, _ => trivial
 | t :: ts, i, hi, h => ⟨by rw [show moreM 12 i = 2 by simp [moreM]; omega]; exact (h t (by simp)).gd, gdK_two (by omega) fun x hx => h x (by simp [hx])⟩
theorem ok_ha {d : Int} {r : List Int} {s t : Tm} {ks : List Tm} (hl : ks.length ≤ 8) (hs : Okt d s) (ht : Okt (d + 1) t) (h : ∀ x ∈ ks, Okt (d + 2) x) : Okt d (haM r (s :: t :: ks)) :=
 ⟨⟨by omega, by simp [kidsM, offM]; omega, by simp, by simp, ⟨by rw [show moreM 12 (0 : Nat) = 0 by simp [moreM], Int.add_zero]; exact hs.gd, by rw [show moreM 12 ((0 + 1 : Nat) : Int) = 1 by simp [moreM]]; exact ht.gd, gdK_two (by omega) h⟩, trivial⟩, ⟨by simp [locM, clashM, offM, hasRefM], ⟨hs.lc, ht.lc, lcK_all h⟩, trivial⟩⟩
theorem ok_ma {d : Int} {t : Tm} {cs : List Cs} (hl : cs.length ≤ 8) (ht : Okt d t) (h : OkC d cs) : Okt d (maM t cs) :=
 ⟨⟨by omega, by simp [kidsM], by simp, by simp, ⟨by rw [show moreM 9 (0 : Nat) = 0 by simp [moreM], Int.add_zero]; exact ht.gd, trivial⟩, h.gd⟩, ⟨by simp [locM, clashM, offM, hasCasesM]; omega, ⟨ht.lc, trivial⟩, h.lc⟩⟩
instance (d : Int) (t : Tm) (c1 c2 : Cs) [ht : Okt d t] [h : OkC d [c1, c2]] : Okt d (maM t [c1, c2]) := ok_ma (by simp) ht h
instance (d : Int) (t : Tm) (c1 c2 c3 : Cs) [ht : Okt d t] [h : OkC d [c1, c2, c3]] : Okt d (maM t [c1, c2, c3]) := ok_ma (by simp) ht h
instance : Okq anyM 1 := ⟨by simp [anyM, perr, perrL, patErr, offM, clashM], by simp [anyM, bindsM]⟩
instance (n : Int) [h : Nb n] : Okq (pnM n) 0 := ⟨by have := h.h; simp [pnM, perr, perrL, patErr, offM, clashM]; omega, by simp [pnM, bindsM, bindsL]⟩
theorem ok_pc {r : List Int} {n : Int} {ks : List Pat} (hn : 0 ≤ n ∧ n ≤ 7) (hl : ks.length ≤ 4) (h : perrL ks = 0) : perr (pcM r n ks) = 0 := by
 have h2 : patErr 3 n r ks.length = 0 := by simp [patErr, offM, clashM]; omega
 simp only [pcM, perr, if_pos h2, h]
instance (r : List Int) (n : Int) [h : Nb n] : Okq (pcM r n []) 0 := ⟨ok_pc h.h (by simp) rfl, by simp [pcM, bindsM, bindsL]⟩
instance (r : List Int) (n : Int) (p : Pat) (e : Int) [h : Nb n] [hp : Okq p e] : Okq (pcM r n [p]) (e + 0) := ⟨ok_pc h.h (by simp) (by simp [perrL, hp.h]), by simp [pcM, bindsM, bindsL, hp.b]⟩
instance (r : List Int) (n : Int) (p q : Pat) (e f : Int) [h : Nb n] [hp : Okq p e] [hq : Okq q f] : Okq (pcM r n [p, q]) (e + f) := ⟨ok_pc h.h (by simp) (by simp [perrL, hp.h, hq.h]), by simp [pcM, bindsM, bindsL, hp.b, hq.b]⟩
class Ln (v : List Ty) (d : Int) : Prop where
 h : (v.length : Int) = d
instance (v : List Ty) : Ln v v.length := ⟨rfl⟩
theorem Ln.one {v : List Ty} {d : Int} (h : Ln v d) (x : Ty) : Ln (v ++ [x]) (d + 1) := ⟨by have := h.h; simp; omega⟩
theorem Ln.two {v : List Ty} {d : Int} (h : Ln v d) (x y : Ty) : Ln (v ++ [x, y]) (d + 2) := ⟨by have := h.h; simp; omega⟩
instance (v : List Ty) (d : Int) (x : Ty) [h : Ln v d] : Ln (v ++ [x]) (d + 1) := h.one x
instance (v : List Ty) (d : Int) (x y : Ty) [h : Ln v d] : Ln (v ++ [x, y]) (d + 2) := h.two x y
instance (v : List Ty) (d : Int) (x : Ty) [h : Ln v d] : Ln (v ++ [x]) (d + (1 + 0)) := h.one x
instance (v : List Ty) (d : Int) (x y : Ty) [h : Ln v d] : Ln (v ++ [x, y]) (d + (1 + 1)) := h.two x y
instance (v : List Ty) (d : Int) [h : Ln v d] : Ln v (d + 0) := ⟨by have := h.h; omega⟩
class Mo (m : Mk) : Prop where
 h : ∀ t v a s l, Okt v.length (m.f t v a s l).1
variable (bs : List Int) (m : Mk) [hm : Mo m]
instance (t : TT) (v : List Ty) (a : List AB) (s : Sd) (l d : Int) [h : Ln v d] : Okt d (m.f t v a s l).1 := h.h ▸ hm.h t v a s l
theorem held_ok (v : List Ty) (t : Ty) (s : Sd) (h : (heldM bs v t s).1.2 = true) : Okt v.length (heldM bs v t s).1.1 := by
 obtain ⟨j, hj, e⟩ := held_var bs h
 rw [e];exact ok_va (by omega)
theorem keep_ok (v : List Ty) (t : Ty) (base : Sd → Tm × Sd) (hb : ∀ s, Okt v.length (base s).1) (s : Sd) : Okt v.length (keepM bs v t base s).1 := by
 unfold keepM
 split
 ·rename_i h
  split
  ·exact held_ok bs v t s h
  ·exact hb _
 ·exact hb _
theorem base0_ok (d : Int) (x : BT) (s : Sd) : Okt d (base0M bs x s).1 := by
 cases x
 ·exact (inferInstance : Okt d (nuM (lessM bs 4 s).1))
 ·exact (inferInstance : Okt d (coM (sumR 1) (lessM bs 2 s).1 []))
theorem leaf0_ok (x : BT) (v : List Ty) (s : Sd) : Okt v.length (leaf0M bs x v s).1 := keep_ok bs v _ _ (base0_ok bs _ x) s
instance (x : BT) (v : List Ty) (s : Sd) (d : Int) [h : Ln v d] : Okt d (leaf0M bs x v s).1 := h.h ▸ leaf0_ok bs x v s
theorem leaf_ok (t : TT) (v : List Ty) (s : Sd) : Okt v.length (leafM bs t v s).1 := by
 refine keep_ok bs v _ _ (fun s => ?_) s
 cases t with
 | ba x => exact base0_ok bs _ x s
 | li x => exact (inferInstance : Okt _ (coM (sumR 2) 0 []))
 | op x => exact (inferInstance : Okt _ (coM (sumR 4) 0 []))
 | pa x y => simp only [base1M]; infer_instance
 | fn x => simp only [base1M]; infer_instance
theorem made_ok (t : TT) (v : List Ty) (a : List AB) (s : Sd) (l : Int) : Okt v.length (madeM bs m t v a s l).1 := by
 cases t with
 | ba x =>
  cases x <;> simp only [madeM] <;> repeat' split
  all_goals infer_instance
 | li x => simp only [madeM]; split <;> infer_instance
 | op x => simp only [madeM]; split <;> infer_instance
 | pa x y => simp only [madeM]; infer_instance
 | fn x => simp only [madeM]; infer_instance
theorem ask_ok (t : TT) (v : List Ty) (a : List AB) (s : Sd) (l : Int) (h : (askMk bs m t v a s l).1.2 = true) : Okt v.length (askMk bs m t v a s l).1.1 := by
 simp only [askMk] at h ⊢
 split at h
 ·cases h
 rename_i h0
 rw [if_neg h0]
 split at h
 ·rename_i h1
  rw [if_pos h1]
  split <;> infer_instance
 ·cases h
theorem match_ok (t : TT) (v : List Ty) (a : List AB) (s : Sd) (l : Int) : Okt v.length (matchMk bs m t v a s l).1 := by
 simp only [matchMk]
 repeat' split
 all_goals infer_instance
theorem clause_ok (t : TT) (v : List Ty) (a : List AB) (b : BT) (s : Sd) (l d : Int) [h : Ln v d] : Okt (d + 2) (clauseM bs m t v a b s l).1 := by
 have hv : Okt (d + 2) (vaM 0) := ok_va (by have := h.h; omega)
 simp only [clauseM]
 repeat' split
 all_goals infer_instance
theorem clauses_ok (t : TT) (v : List Ty) (a : List AB) (b : BT) (s : Sd) (l d : Int) [h : Ln v d] : ∀ i : Nat, ∀ x ∈ (clausesM bs m t v a b s l i).1, Okt (d + 2) x
 | 0, x, hx => by simp [clausesM] at hx
 | i + 1, x, hx => by
  simp only [clausesM, List.mem_append, List.mem_singleton] at hx
  rcases hx with hx | rfl
  ·exact clauses_ok t v a b s l d i x hx
  ·exact clause_ok bs m t v a b _ _ d
theorem clauses_len2 (m : Mk) (t : TT) (v : List Ty) (a : List AB) (back : BT) (s : Sd) (l : Int) : ∀ i, (clausesM bs m t v a back s l i).1.length ≤ i
 | 0 => by simp [clausesM]
 | i + 1 => by
  have := clauses_len2 m t v a back s l i
  simp [clausesM]; omega
theorem handle_ok (t : TT) (v : List Ty) (a : List AB) (s : Sd) (l : Int) : Okt v.length (handleMk bs m t v a s l).1 := by
 simp only [handleMk]
 split
 ·exact made_ok bs m t v a _ _
 ·refine ok_ha ?_ inferInstance inferInstance (clauses_ok bs m t v a _ _ _ _ _)
  refine Nat.le_trans (clauses_len2 bs m t v a _ _ _ _) ?_
  split <;> omega
theorem node_ok (t : TT) (v : List Ty) (a : List AB) (s : Sd) (l : Int) : Okt v.length (nodeM bs m t v a s l).1 := by
 simp only [nodeM]
 split
 ·split
  ·rename_i h; exact held_ok bs v t.ty _ h
  ·exact made_ok bs m t v a _ _
 split
 ·infer_instance
 split
 ·infer_instance
 split
 ·exact match_ok bs m t v a _ _
 split
 ·split
  ·rename_i h; exact ask_ok bs m t v a _ _ h
  ·exact made_ok bs m t v a _ _
 split
 ·exact handle_ok bs m t v a _ _
 ·exact made_ok bs m t v a _ _
instance term_mo : ∀ n : Nat, Mo (termMk bs n)
 | 0 => ⟨fun t v a s l => by simp only [termMk]; exact leaf_ok bs t v s⟩
 | n + 1 => ⟨fun t v a s l => by
  have ih := term_mo n
  simp only [termMk]
  split
  ·exact leaf_ok bs t v s
  ·exact node_ok bs (termMk bs n) t v a s _⟩
theorem typed_ok (size : Nat) (t : TT) (a : List AB) (s : Sd) : Rt (typedM bs size t a s).1 := by
 have := (term_mo bs size).h t [] a s size
 exact ⟨this.gd, this.lc⟩
class Ko (m : Sk) : Prop where
 h : ∀ d s l, 0 ≤ d → Okt d (m.f d s l).1
variable (k : Sk) [hk : Ko k]
theorem patsL_perr {f : Sd → Pat × Sd} (hf : ∀ s, perr (f s).1 = 0) (s : Sd) : ∀ i, perrL (patsL f s i).1 = 0
 | 0 => rfl
 | i + 1 => by
  have := patsL_perr hf s i
  rw [perrL_eq] at this ⊢
  simp only [patsL]
  generalize (patsL f s i).1 = l at this
  induction l with
  | nil => simp [firstE, hf]
  | cons a l ih =>
   simp only [firstE, List.cons_append] at this ⊢
   split at this
   ·rename_i h0
    rw [if_pos h0];exact ih this
   ·rename_i h0
    exact absurd this h0
theorem pat_perr : ∀ (d : Nat) (s : Sd), perr (patMk bs d s).1 = 0
 | 0, s => by
  simp only [patMk]
  split
  ·exact (inferInstance : Okq (pnM (lessM bs 3 (lessM bs 5 s).2).1) 0).h
  ·exact (inferInstance : Okq anyM 1).h
 | d + 1, s => by
  simp only [patMk]
  split
  ·refine ok_pc (inferInstance : Nb (lessM bs 2 _).1).h ?_ (patsL_perr (pat_perr d) _ _)
   rw [patsL_len]
   have := less3 bs (lessM bs 2 (pickM bs 1 4 (lessM bs 5 s).2).2).2
   omega
  split
  ·exact (inferInstance : Okq (pnM (lessM bs 3 (lessM bs 5 s).2).1) 0).h
  ·exact (inferInstance : Okq anyM 1).h
theorem scL_ok (d : Int) (hd : 0 ≤ d) (s : Sd) (l : Int) : ∀ i, ∀ x ∈ (scL k d s l i).1, Okt d x
 | 0, x, hx => by simp [scL] at hx
 | i + 1, x, hx => by
  simp only [scL, List.mem_append, List.mem_singleton] at hx
  rcases hx with hx | rfl
  ·exact scL_ok d hd s l i x hx
  ·exact hk.h _ _ _ hd
theorem scL_len2 (k : Sk) (d : Int) (s : Sd) (l : Int) : ∀ i, (scL k d s l i).1.length = i
 | 0 => rfl
 | i + 1 => by simp [scL, scL_len2 k d s l i]
theorem caL_len2 (k : Sk) (d : Int) (s : Sd) (l : Int) : ∀ i, (caL bs k d s l i).1.length = i
 | 0 => rfl
 | i + 1 => by simp [caL, caL_len2 k d s l i]
theorem OkC.app {d : Int} : ∀ {a b : List Cs}, OkC d a → OkC d b → OkC d (a ++ b)
 | [], _, _, h => h
 | c :: cs, b, h, g => by
  have := OkC.app (a := cs) ⟨h.gd.2, h.lc.2⟩ g
  exact ⟨⟨h.gd.1, this.gd⟩, h.lc.1, this.lc⟩
theorem caL_ok (d : Int) (hd : 0 ≤ d) (s : Sd) (l : Int) : ∀ i, OkC d (caL bs k d s l i).1
 | 0 => by simp only [caL]; infer_instance
 | i + 1 => by
  have h1 := caL_ok d hd s l i
  have h2 := pat_perr bs 2 (caL bs k d s l i).2.1
  have h3 := (binds_bound (patMk bs 2 (caL bs k d s l i).2.1).1).1
  have h4 := hk.h (d + bindsM (patMk bs 2 (caL bs k d s l i).2.1).1) (patMk bs 2 (caL bs k d s l i).2.1).2 (caL bs k d s l i).2.2 (by omega)
  simp only [caL]
  exact h1.app ⟨⟨⟨h2, h4.gd⟩, trivial⟩, h4.lc, trivial⟩
theorem scAll_ok (x : Int) (d : Int) (hd : 0 ≤ d) (s : Sd) (l : Int) : Okt d (scAll bs k x d s l).1 := by
 have h0 : ∀ s l, Okt d (k.f (d + 0) s l).1 := fun s l => by rw [Int.add_zero]; exact hk.h d s l hd
 have h1 : ∀ s l, Okt (d + 1) (k.f (d + 1) s l).1 := fun s l => hk.h _ s l (by omega)
 simp only [scAll]
 split
 ·rename_i h; exact ok_va (less_b bs s h.2)
 split
 ·infer_instance
 split
 ·infer_instance
 split
 ·have := h1 s l; infer_instance
 split
 ·have := h0 s l
  have := h0 (k.f (d + 0) s l).2.1 (k.f (d + 0) s l).2.2
  infer_instance
 split
 ·have := h0 s l
  have := h1 (k.f (d + 0) s l).2.1 (k.f (d + 0) s l).2.2
  infer_instance
 split
 ·have := h0 (fromM bs 1 5 s).2 l
  have := h0 (k.f (d + 0) (fromM bs 1 5 s).2 l).2.1 (k.f (d + 0) (fromM bs 1 5 s).2 l).2.2
  infer_instance
 split
 ·have := h0 (lessM bs 2 (pickM bs 11 3 s).2).2 l
  infer_instance
 split
 ·refine ok_ha ?_ (h0 _ _) (h1 _ _) (scL_ok k (d + 2) (by omega) _ _ _)
  rw [scL_len2]
  have := less3 bs (k.f (d + 1) (k.f (d + 0) (pickM bs 11 3 s).2 l).2.1 (k.f (d + 0) (pickM bs 11 3 s).2 l).2.2).2.1
  omega
 split
 ·refine ok_ma ?_ (h0 _ _) (caL_ok bs k d hd _ _ _)
  rw [caL_len2]
  have := less3 bs (k.f (d + 0) s l).2.1
  omega
 ·refine ok_co (inferInstance : Nb (lessM bs 3 _).1).h ?_ (by rw [Int.add_zero]; exact scL_ok k d hd _ _ _)
  rw [scL_len2]
  have := less3 bs (lessM bs 3 (pickM bs 1 4 s).2).2
  omega
theorem scAll_ok4 (m : Sk) (x : Int) (hx : x < 4) (d : Int) (s : Sd) (l : Int) : Okt d (scAll bs m x d s l).1 := by
 unfold scAll
 split
 ·rename_i h; exact ok_va (less_b bs s h.2)
 split
 ·infer_instance
 ·infer_instance
instance scoped_ko : ∀ n : Nat, Ko (scopedMk bs n)
 | 0 => ⟨fun d s l hd => by
  simp only [scopedMk]
  split
  ·rename_i hl
   exact scAll_ok4 bs idleK _ (low_lt bs hl) d _ _
  ·exact ok_nu (by decide)⟩
 | n + 1 => ⟨fun d s l hd => by
  have ih := scoped_ko n
  simp only [scopedMk]
  exact scAll_ok bs (scopedMk bs n) _ d hd _ _⟩
theorem scop_ok (size : Nat) (s : Sd) : Rt (scopM bs size s).1 := by
 have := (scoped_ko bs size).h 0 s size (Int.le_refl _)
 exact ⟨this.gd, this.lc⟩
def drawnM (size : Nat) (s : Sd) : Tm × Sd :=
 if (seldomM bs 3 s).1 = true then scopM bs size (seldomM bs 3 s).2
 else typedM bs size (plain1M bs (seldomM bs 3 s).2).1 [.st, .fl] (plain1M bs (seldomM bs 3 s).2).2
theorem drawn_ok (size : Nat) (s : Sd) : Rt (drawnM bs size s).1 := by
 unfold drawnM
 split
 ·exact scop_ok bs size _
 ·exact typed_ok bs size _ _ _
theorem drawn_z (size : Nat) (hs : size ≤ 30) (s : Sd) : tsize (drawnM bs size s).1 ≤ 70000 := by
 unfold drawnM
 split
 ·exact scop_z bs size hs _
 ·exact typed_z bs size hs _ _ _
theorem a_of_bd {s : Sd} {l k : Int} (h : Bd s l k) (hl : l = 0) : 0 ≤ s.a ∧ s.a ≤ 1152921504606846976 + k := by
 have := h.h
 subst hl
 simpa using this
theorem drawn_c [hz : Bz bs] (size : Nat) (hs : size ≤ 30) (s : Sd) (h0 : 0 ≤ s.a ∧ s.a ≤ 1000) :
  HCall Tryz.prog gL 41 [.ptr 950 [] 171, iv .i64 size] [] (stO bs s) (.pu (tmc 0 (drawnM bs size s).1)) (stO bs (drawnM bs size s).2) [] := by
 have hb : Bd s 0 (1000 - 1152921504606846976) := ⟨by simp; omega⟩
 have hb1 := a_of_bd (inferInstance : Bd (seldomM bs 3 s).2 0 (1000 - 1152921504606846976 + 1)) rfl
 have hb2 := a_of_bd (inferInstance : Bd (plain1M bs (seldomM bs 3 s).2).2 0 (1000 - 1152921504606846976 + 1 + 3)) rfl
 refine HCall.of_triD tbl 18 [950] Tryz.func41 rfl rfl rfl fun w0 M ρ0 D0 => ?_
 simp only [drawnM]
 refine yR ?_;refine s_alloc SS 4 ?_;refine e_seqN [4] ?_;refine Y1 ?_;refine s_call (seldom_c bs 3 s (by omega)) ?_;refine Y0 ?_;refine Tri.cond rfl (fun h0 => ?_) (fun h0 => ?_)
 ·skip
  rw [if_pos h0];refine Y29 ?_;refine s_call (scop_c bs size hs (seldomM bs 3 s).2 (by omega)) ?_;refine Y10 ?_;exact Tri.ret ⟨.inr rfl, ret1 rfl resV_cell (VImp.refl _), zO⟩
 ·skip
  rw [if_neg (by rw [h0]; decide)];refine Tri.skip ?_;refine Y29 ?_;refine s_call (plain1_c bs (seldomM bs 3 s).2 (by omega)) ?_;refine yM ?_;refine yG ?_;refine yG ?_;refine yZ ?_;refine s_call (typed_c bs size hs (plain1M bs (seldomM bs 3 s).2).1 [.st, .fl] (by decide) (plain1M bs (seldomM bs 3 s).2).2 (by omega)) ?_;refine Y25 ?_;exact Tri.ret ⟨.inr rfl, ret1 rfl resV_cell (VImp.refl _), zO⟩
end Go.Proofs.YtkcgkignhpepkaaGreatDoor

/- StepCut: the plain law. -/
namespace Go.Proofs.YtkcgkignhpepkaaGreatDoor
open Go Hs
structure Gt (ts : List KT) (t : Tm) : Prop where
 rt : Rt t
 ck : stepCheckM ts t = 0
theorem Gt.long {ts : List KT} {t : Tm} (h : Gt ts t) : (longT 300 60 1 0 t).1 = false := by
 have h1 := (stepCheck_ok h.ck).2.2.2
 rw [h.rt.check 0 0] at h1
 cases hl : (longT 300 60 1 0 t).1
 ·rfl
 ·rw [hl] at h1; simp at h1
theorem Gt.size {ts : List KT} {t : Tm} (h : Gt ts t) : tsize t ≤ 300 := (check_sh (stepCheck_ok h.ck).2.2.2).2
end Go.Proofs.YtkcgkignhpepkaaGreatDoor

/- term.At. -/
namespace Go.Proofs.YtkcgkignhpepkaaGreatDoor
open Go Hs
section
variable {G : List (Nat × TypeId × Pu)}
end
end Go.Proofs.YtkcgkignhpepkaaGreatDoor

/- StepCut: the walk. -/
namespace Go.Proofs.YtkcgkignhpepkaaGreatDoor
open Go Hs
theorem conv_bi {x : Int} (h : 0 ≤ x ∧ x ≤ 255) : convV Tryz.prog 5 3 (iv .u8 x) = some (iv .i64 x) := by
 have hu : Tryz.prog.underlying 5 = some (.int .u8) := by kernel_rfl
 have hi : Tryz.prog.underlying 3 = some (.int .i64) := by kernel_rfl
 unfold convV iv
 simp only [hu, hi, wrap64 (n := x) (by omega) (by omega)]
theorem tooMuch_c {G : List (Nat × TypeId × Pu)} (e : Int) : FCall Tryz.prog G 36 [iv .i64 e] (bv (e == 11 || e == 12)) := by
 refine FCall.of_tri tbl 9 Tryz.func36 rfl rfl rfl fun w0 M ρ0 D0 => ?_
 refine Y20 ?_;refine Y11 ?_;refine Y22 ?_;refine Y24 ?_;refine Y2 ?_;exact Tri.ret ⟨.inr rfl, ret1 rfl resV_tmp (VImp.refl _)⟩
theorem wsz : ∀ x ∈ worldT, tsize x.2 < 2^40 := by
 intro x hx
 simp only [worldT, List.mem_cons, List.not_mem_nil, or_false] at hx
 rcases hx with rfl | rfl | rfl | rfl <;> decide
theorem world_nil : stepCheckM worldT (nuM 0) = 0 := by kernel_rfl
theorem world_check (t : Tm) : stepCheckM worldT t = checkM t 0 0 := stepCheck_parts world_nil t
theorem world_rt : ∀ x ∈ worldT, Rt x.2 := by
 intro x hx
 have hc := (stepCheck_ok world_nil).2.1 x hx
 refine check_rt hc ?_
 simp only [worldT, List.mem_cons, List.not_mem_nil, or_false] at hx
 rcases hx with rfl | rfl | rfl | rfl <;> simp [laM, prM, vaM, nuM, maM, apM, deM, rgT, rgK, rgC, rgS]
theorem step_says {u : Tm} (g : Gt worldT u) : (stepNextM worldT u).2.2 = 0 ∧
  ((valM u = true ∧ (stepM worldT u).2 = 6 ∧ (stepNextM worldT u).1 = 0 ∧ (stepNextM worldT u).2.1 = []) ∨
  (valM u = false ∧ ((stepNextM worldT u).1 = 8 ∨ (stepNextM worldT u).1 = 9) ∧ 7 < kindM worldT u (placeM u) ∧ (stepM worldT u).2 = 10) ∨
  (valM u = false ∧ 1 ≤ (stepNextM worldT u).1 ∧ (stepNextM worldT u).1 ≤ 7 ∧ ¬ 7 < kindM worldT u (placeM u) ∧ (stepNextM worldT u).2.1 = placeM u ∧ ((stepM worldT u).2 = 11 ∨ (stepM worldT u).2 = 0 ∧ (stepM worldT u).1 = nextM worldT u ∧ Gt worldT (nextM worldT u)))) := by
 have h19 := kind19 (ts := worldT) (t := u)
 obtain ⟨h1, h2⟩ := step_eq world_rt g.ck g.rt
 unfold stepNextM
 rw [if_pos g.ck]
 cases hv : valM u with
 | true =>
  refine ⟨rfl, .inl ⟨rfl, ?_, rfl, rfl⟩⟩
  rw [stepM, if_pos g.ck, if_pos hv]
 | false =>
  refine ⟨rfl, .inr ?_⟩
  by_cases h7 : 7 < kindM worldT u (placeM u)
  ·refine .inl ⟨rfl, by show kindM worldT u (placeM u) = 8 ∨ kindM worldT u (placeM u) = 9; omega, h7, ?_⟩
   rw [stepM, if_pos g.ck, if_neg (by simp [hv]), if_pos h7]
  ·refine .inr ⟨rfl, h19.1, by show kindM worldT u (placeM u) ≤ 7; omega, h7, rfl, ?_⟩
   have hs : stepM worldT u = if checkM (nextM worldT u) 60 8 = 0 then (nextM worldT u, 0) else (noneM, 11) := by rw [stepM, if_pos g.ck, if_neg (by simp [hv]), if_neg h7]
   by_cases hc : checkM (nextM worldT u) 60 8 = 0
   ·rw [hs, if_pos hc]
    have := h2 (by rw [← h1, hs, if_pos hc])
    exact .inr ⟨rfl, rfl, this.2.1, this.2.2⟩
   ·rw [hs, if_neg hc]
    exact .inl rfl
end Go.Proofs.YtkcgkignhpepkaaGreatDoor

/- Rows of bytes as arguments. -/
namespace Go.Proofs.YtkcgkignhpepkaaGreatDoor
open Go Hs
open Go.ChangeShapes Go.WideShapes Go.ChangeAt Go.RowKit
theorem uB : Tryz.prog.underlying 48 = some (.slice 5) := by kernel_rfl
theorem cB : Tryz.prog.cellsOf 5 = 1 := by kernel_rfl
set_option maxRecDepth 100000 in
theorem byte_arg {H : Type} {enc : TypeId × Value → H} {W : World} {base : Nat} {v : Value} {d : DataW H} {p : List MemPlace} (hv : Value.okWide Tryz.prog W .any base 48 v) (h : DataW.Trod enc Tryz.prog W 0 (fun _ => true) true 48 v d p) (hlt : ∀ x ∈ p, x.block < W.heap.size) :
  ∃ l : List Int, (∀ x ∈ l, 0 ≤ x ∧ x ≤ 255) ∧ l.length < 2^63 ∧ valAgg v = false ∧ VR Tryz.prog (cfg0 W) W none (.pu (.sl 0 5 (byP l))) v.cells.toList := by
 obtain ⟨a0, len, cap, rfl⟩ := okWide_slice uB hv
 obtain ⟨fuel, hf⟩ := h
 rcases open_ints uB c_u8 cB hf with ⟨hcs, hx⟩ | ⟨ad, len', cap', zs, hcs, _, hl, hm, hz, hx, hcell, hwz⟩
 ·simp [Value.cells] at hcs
  obtain ⟨rfl, rfl, rfl⟩ := hcs
  exact ⟨[], by simp, by simp, rfl, .pu .sl0⟩
 ·simp [Value.cells] at hcs
  obtain ⟨rfl, rfl, rfl⟩ := hcs
  simp only [Prod.mk.injEq] at hx
  obtain ⟨rfl, rfl⟩ := hx
  simp only [if_true] at hz
  have hll : (zs.take len).length = len := by rw [List.length_take]; omega
  refine ⟨zs.take len, fun x hx => ?_, by rw [hll]; simp only [maxLen] at hm; omega, rfl, .pu ?_⟩
  ·have := hwz x (List.mem_of_mem_take hx)
   simpa [Lit.wf, IntKind.min, IntKind.max, IntKind.signed, IntKind.bits] using this
  ·by_cases h0 : zs.take len = []
   ·rw [h0] at hll
    have : len = 0 := by simpa using hll.symm
    subst this;rw [h0];exact .sl0
   ·have hpos : 0 < zs.length := by
     rcases Nat.eq_zero_or_pos zs.length with h' | h'
     ·rw [List.length_eq_zero_iff] at h'; subst h'; simp at h0
     ·exact h'
    have c0 := hcell 0 hpos
    obtain ⟨bk, off, sp⟩ := ad
    obtain rfl : sp = none := by simpa [Addr.add] using World.cell?_spot c0
    have hbk : bk < W.heap.size := hlt (.cell bk off) (MemPlace.mem_row.2 ⟨0, by omega, by simp⟩)
    have hbl : (byP (zs.take len)).length = len := by rw [by_len, hll]
    have := PR.sl (P := Tryz.prog) (D := (cfg0 W).D) (w := W) (lo := 0) (E := 5) (ps := byP (zs.take len)) (b := bk) (o := off) (cap := cap) (x := (zs.take len).map fun z => Value.int .u8 z) (by simpa [byP] using h0) (by omega)
     (by rw [by_len, cB]; exact prs_ints (zs.take len)) (fun j v hj => by
      rw [List.getElem?_map] at hj
      obtain ⟨z, hz', rfl⟩ := Option.map_eq_some_iff.1 hj
      obtain ⟨hjl, rfl⟩ := List.getElem?_eq_some_iff.1 hz'
      have hj' : j < zs.length := by rw [List.length_take] at hjl; omega
      have hcj := hcell j hj'
      refine ⟨?_, hbk⟩
      rw [List.getElem_take]
      have e : (zs.getD j 0) = zs[j] := by simp [List.getD_eq_getElem?_getD, hj']
      rw [e] at hcj
      cases j with
      | zero => simpa [Addr.add] using hcj
      | succ j => simpa [Addr.add] using hcj) (.inl rfl)
    rw [hbl] at this
    exact this
end Go.Proofs.YtkcgkignhpepkaaGreatDoor

/- A term around another one: the place of work, and a step. -/
namespace Go.Proofs.YtkcgkignhpepkaaGreatDoor
open Go Hs
structure Cx where
 k : Int
 n : Int
 r : List Int
 pre : List Tm
 post : List Tm
 cs : List Cs
def Cx.plug (c : Cx) (x : Tm) : Tm := .mk c.k c.n c.r (c.pre ++ x :: c.post) c.cs
structure Cx.Ok (c : Cx) : Prop where
 pre : ∀ x ∈ c.pre, valM x = true
 many : c.pre.length < manyM c.k (c.pre.length + (c.post.length + 1))
theorem val_plug {c : Cx} (h : c.Ok) {x : Tm} (hx : valM x = false) : valM (c.plug x) = false := by
 have hm := h.many
 have h2 : c.k ≠ 2 := by intro e; simp [manyM, e] at hm
 have h3 : c.k ≠ 3 := by intro e; simp [manyM, e] at hm
 simp [Cx.plug, valM, valL_eq, hx, h2, h3]
theorem placeL_at {many : Nat} {x : Tm} {post : List Tm} (hx : valM x = false) : ∀ (pre : List Tm) (i : Nat), (∀ y ∈ pre, valM y = true) → i + pre.length < many → placeL many i (pre ++ x :: post) = (i + pre.length) :: placeM x
 | [], i, _, hm => by simp at hm; simp [placeL, hx, hm]
 | y :: pre, i, hp, hm => by
  simp only [List.length_cons] at hm
  have := placeL_at (many := many) (post := post) hx pre (i + 1) (fun z hz => hp z (by simp [hz])) (by omega)
  simp only [List.cons_append, placeL, hp y (by simp), if_pos (show i < many by omega), if_true, this]
  rw [List.length_cons, show i + 1 + pre.length = i + (pre.length + 1) by omega]
theorem place_plug {c : Cx} (h : c.Ok) {x : Tm} (hx : valM x = false) : placeM (c.plug x) = c.pre.length :: placeM x := by
 have hm := h.many
 simp only [Cx.plug, placeM]
 rw [placeL_at hx c.pre 0 h.pre (by simpa using hm)]
 simp
theorem kid_plug (c : Cx) (x : Tm) : (c.plug x).kids[c.pre.length]? = some x := by simp [Cx.plug, Tm.kids]
theorem walk_plug (c : Cx) (x : Tm) (p : List Nat) : walkM (c.plug x) (c.pre.length :: p) = walkM x p := by simp only [walkM, kid_plug]
theorem way_plug (c : Cx) (x : Tm) (p : List Nat) : wayM (c.plug x) (c.pre.length :: p) = c.plug x :: wayM x p := by simp only [wayM, kid_plug]
theorem hand_cons (t : Tm) (way : List Tm) (r : List Int) : ∀ n, handM (t :: way) r (n + 1) = if 0 ≤ handM way r n then handM way r n + 1 else if (t.kind == 12 && t.ref == r) = true then 0 else -1
 | 0 => by simp [handM]
 | n + 1 => by
  have ih := hand_cons t way r n
  have h1 : handM (t :: way) r (n + 1 + 1) = (match way[n]? with | some x => if x.kind == 12 && x.ref == r then ((n + 1 : Nat) : Int) else handM (t :: way) r (n + 1) | none => handM (t :: way) r (n + 1)) := rfl
  have h2 : handM way r (n + 1) = (match way[n]? with | some x => if x.kind == 12 && x.ref == r then (n : Int) else handM way r n | none => handM way r n) := rfl
  rw [h1, h2]
  cases way[n]? with
  | none => exact ih
  | some x =>
   simp only
   by_cases hx : (x.kind == 12 && x.ref == r) = true
   ·rw [if_pos hx, if_pos hx, if_pos (by omega)]; omega
   ·rw [if_neg hx, if_neg hx]; exact ih
theorem kind_plug {ts : List KT} (c : Cx) (x : Tm) (p : List Nat) : (kindM ts x p ≠ 9 → kindM ts (c.plug x) (c.pre.length :: p) = kindM ts x p) ∧ (kindM ts x p = 9 → kindM ts (c.plug x) (c.pre.length :: p) = 9 ∨ kindM ts (c.plug x) (c.pre.length :: p) = 6 ∨ kindM ts (c.plug x) (c.pre.length :: p) = 8) := by
 unfold kindM
 rw [walk_plug, way_plug, List.length_cons]
 generalize walkM x p = w
 generalize wayM x p = way
 generalize p.length = len
 obtain ⟨k, n, r, ks, cs⟩ := w
 by_cases hk : k = 11
 ·subst hk
  simp only [kindW, if_neg (show ¬ (11 : Int) = 4 by decide), if_neg (show ¬ (11 : Int) = 5 by decide), if_neg (show ¬ (11 : Int) = 6 by decide), if_neg (show ¬ (11 : Int) = 10 by decide), if_neg (show ¬ (11 : Int) = 9 by decide), if_true]
  rw [hand_cons]
  have hl := (hand_lt way r len).2
  by_cases hh : 0 ≤ handM way r len
  ·have e : (handM way r len + 1).toNat = (handM way r len).toNat + 1 := by omega
   rw [if_pos hh, if_neg (by omega), if_neg (by omega), e, List.getElem?_cons_succ]
   refine ⟨fun _ => rfl, fun h => ?_⟩
   exfalso
   revert h
   cases way[(handM way r len).toNat]? with
   | none => simp
   | some h => simp only; generalize decide ((h.kids.length : Int) > 2 + n) = b; cases b <;> simp
  ·rw [if_neg hh, if_pos (show handM way r len < 0 by omega)]
   refine ⟨fun h => absurd rfl h, fun _ => ?_⟩
   by_cases hp : ((c.plug x).kind == 12 && (c.plug x).ref == r) = true
   ·rw [if_pos hp, if_neg (by decide)]
    split
    ·rename_i h _
     generalize decide ((h.kids.length : Int) > 2 + n) = b
     cases b
     ·exact .inr (.inr rfl)
     ·exact .inr (.inl rfl)
    ·exact .inr (.inr rfl)
   ·rw [if_neg hp, if_pos (by decide)]
    exact .inl rfl
 ·simp only [kindW, if_neg hk]
  refine ⟨fun _ => trivial, fun h => ?_⟩
  exact .inl h
theorem fill_cons1 (t : Tm) (way : List Tm) (j : Nat) (p : List Nat) (lo : Nat) : ∀ (n : Nat) (x : Tm), fillM (t :: way) (j :: p) (lo + 1) (n + 1) x = fillM way p lo n x
 | 0, x => by simp [fillM]
 | n + 1, x => by
  have h1 : fillM (t :: way) (j :: p) (lo + 1) (n + 1 + 1) x = (if n + 1 < lo + 1 then x else match way[n]?, p[n]? with | some t', some k => fillM (t :: way) (j :: p) (lo + 1) (n + 1) (setKid t' k x) | _, _ => x) := rfl
  have h2 : fillM way p lo (n + 1) x = (if n < lo then x else match way[n]?, p[n]? with | some t', some k => fillM way p lo n (setKid t' k x) | _, _ => x) := rfl
  rw [h1, h2]
  by_cases hl : n < lo
  ·rw [if_pos (by omega), if_pos hl]
  ·rw [if_neg (by omega), if_neg hl]
   cases way[n]? with
   | none => rfl
   | some t' =>
    cases p[n]? with
    | none => rfl
    | some k => exact fill_cons1 t way j p lo n _
theorem fill_cons0 (t : Tm) (way : List Tm) (j : Nat) (p : List Nat) : ∀ (n : Nat) (x : Tm), n ≤ way.length → n ≤ p.length → fillM (t :: way) (j :: p) 0 (n + 1) x = setKid t j (fillM way p 0 n x)
 | 0, x, _, _ => by simp [fillM]
 | n + 1, x, hw, hp => by
  have h1 : fillM (t :: way) (j :: p) 0 (n + 1 + 1) x = (if n + 1 < 0 then x else match way[n]?, p[n]? with | some t', some k => fillM (t :: way) (j :: p) 0 (n + 1) (setKid t' k x) | _, _ => x) := rfl
  have h2 : fillM way p 0 (n + 1) x = (if n < 0 then x else match way[n]?, p[n]? with | some t', some k => fillM way p 0 n (setKid t' k x) | _, _ => x) := rfl
  rw [h1, h2, if_neg (by omega), if_neg (by omega), List.getElem?_eq_getElem (show n < way.length by omega), List.getElem?_eq_getElem (show n < p.length by omega)];exact fill_cons0 t way j p n _ (by omega) (by omega)
theorem set_plug (c : Cx) (x y : Tm) : setKid (c.plug x) c.pre.length y = c.plug y := by simp [setKid, Cx.plug]
theorem here_plug (c : Cx) {x : Tm} {p : List Nat} (h : okP x p) (y : Tm) : hereM (c.plug x) (c.pre.length :: p) y = c.plug (hereM x p y) := by
 have hl := way_len h
 unfold hereM
 rw [way_plug, List.length_cons, fill_cons0 _ _ _ _ _ _ (by omega) (Nat.le_refl _), set_plug]
theorem do_plug (c : Cx) {x : Tm} {p : List Nat} (h : okP x p) (hs : shT x) {ts : List KT} (hk : kindM ts x p = 6) : doM (c.plug x) (c.pre.length :: p) = c.plug (doM x p) := by
 obtain ⟨h11, hh, h', hg, hgt⟩ := (kind_inv hk).2.2.2.2.2.1 rfl
 obtain ⟨a, ha⟩ := len1 (sh_walk (p := p) hs) (.inr (.inr h11))
 have hwl := way_len h
 have hlt := hand_lt (wayM x p) (walkM x p).ref p.length
 have hn : 0 ≤ (walkM x p).num := by
  have := sh_walk (p := p) hs
  generalize walkM x p = w at this h11
  obtain ⟨k, n, r, ks, cs⟩ := w
  exact (this.2.1 h11).1
 unfold doM
 rw [walk_plug, way_plug, List.length_cons, hand_cons, if_pos hh]
 have e : (handM (wayM x p) (walkM x p).ref p.length + 1).toNat = (handM (wayM x p) (walkM x p).ref p.length).toNat + 1 := by omega
 rw [e]
 unfold backM
 rw [way_plug, List.length_cons]
 generalize hm : (handM (wayM x p) (walkM x p).ref p.length).toNat = m
 have hmp : m < p.length := by omega
 rw [List.take_succ_cons, walk_plug, ha]
 rw [hm, way_get h (by omega)] at hg
 simp only [Option.some.injEq] at hg
 rw [hg]
 have hb : (2 + (walkM x p).num).toNat < h'.kids.length := by omega
 rw [List.getElem?_eq_getElem hb]
 simp only
 rw [fill_cons1, fill_cons0 _ _ _ _ _ _ (by omega) (by omega), set_plug]
theorem next_plug {c : Cx} (hc : c.Ok) {x : Tm} (hs : shT x) (hx : valM x = false) {ts : List KT} (h9 : kindM ts x (placeM x) ≠ 9) : nextM ts (c.plug x) = c.plug (nextM ts x) := by
 have hok := place_ok hs
 unfold nextM
 rw [place_plug hc hx, (kind_plug c x (placeM x)).1 h9]
 unfold doesM
 rw [walk_plug]
 by_cases h1 : kindM ts x (placeM x) = 1
 ·rw [if_pos h1, if_pos h1, here_plug c hok]
 rw [if_neg h1, if_neg h1]
 by_cases h1 : kindM ts x (placeM x) = 2
 ·rw [if_pos h1, if_pos h1, here_plug c hok]
 rw [if_neg h1, if_neg h1]
 by_cases h1 : kindM ts x (placeM x) = 3
 ·rw [if_pos h1, if_pos h1, here_plug c hok]
 rw [if_neg h1, if_neg h1]
 by_cases h1 : kindM ts x (placeM x) = 4
 ·rw [if_pos h1, if_pos h1, here_plug c hok]
 rw [if_neg h1, if_neg h1]
 by_cases h1 : kindM ts x (placeM x) = 5
 ·rw [if_pos h1, if_pos h1, here_plug c hok]
 rw [if_neg h1, if_neg h1]
 by_cases h1 : kindM ts x (placeM x) = 6
 ·rw [if_pos h1, if_pos h1, do_plug c hok hs h1]
 rw [if_neg h1, if_neg h1, here_plug c hok]
structure Ard (ts : List KT) (f : Tm → Tm) (a : List Nat) : Prop where
 val : ∀ x, valM x = false → valM (f x) = false
 place : ∀ x, valM x = false → placeM (f x) = a ++ placeM x
 kind : ∀ x, shT x → valM x = false → (kindM ts x (placeM x) ≠ 9 → kindM ts (f x) (placeM (f x)) = kindM ts x (placeM x)) ∧ (kindM ts x (placeM x) = 9 → kindM ts (f x) (placeM (f x)) = 9 ∨ kindM ts (f x) (placeM (f x)) = 6 ∨ kindM ts (f x) (placeM (f x)) = 8)
 next : ∀ x, shT x → valM x = false → kindM ts x (placeM x) ≠ 9 → nextM ts (f x) = f (nextM ts x)
 sh : ∀ x, shT x → shT (f x)
theorem Cx.ard {c : Cx} (h : c.Ok) (ts : List KT) (hsh : ∀ x, shT x → shT (c.plug x)) : Ard ts c.plug [c.pre.length] where
 val := fun _ hx => val_plug h hx
 place := fun _ hx => place_plug h hx
 kind := fun x _ hx => by rw [place_plug h hx]; exact kind_plug c x (placeM x)
 next := fun _ hs hx h9 => next_plug h hs hx h9
 sh := hsh
theorem Ard.comp {ts : List KT} {f g : Tm → Tm} {a b : List Nat} (h : Ard ts f a) (k : Ard ts g b) : Ard ts (fun x => f (g x)) (a ++ b) where
 val := fun x hx => h.val _ (k.val x hx)
 place := fun x hx => by rw [h.place _ (k.val x hx), k.place x hx, List.append_assoc]
 kind := fun x hs hx => by
  obtain ⟨h1, h2⟩ := h.kind (g x) (k.sh x hs) (k.val x hx)
  obtain ⟨k1, k2⟩ := k.kind x hs hx
  refine ⟨fun h9 => by rw [h1 (by rw [k1 h9]; exact h9), k1 h9], fun h9 => ?_⟩
  rcases k2 h9 with e | e | e
  ·exact h2 e
  ·exact .inr (.inl (by rw [h1 (by rw [e]; decide), e]))
  ·exact .inr (.inr (by rw [h1 (by rw [e]; decide), e]))
 next := fun x hs hx h9 => by
  rw [h.next _ (k.sh x hs) (k.val x hx) (by rw [(k.kind x hs hx).1 h9]; exact h9), k.next x hs hx h9]
 sh := fun x hs => h.sh _ (k.sh x hs)
end Go.Proofs.YtkcgkignhpepkaaGreatDoor

/- StepWithin: the plain law. -/
namespace Go.Proofs.YtkcgkignhpepkaaGreatDoor
open Go Hs
def arM (q : Int) (t : Tm) : Tm :=
 if q = 0 then apM (laM (vaM 0)) t else if q = 1 then apM t (apM (nuM 0) (nuM 0)) else if q = 2 then coM (sumR 3) 0 [nuM 1, t]
 else if q = 3 then leM t (vaM 0) else if q = 4 then haM (sumR 13) [t, vaM 0, vaM 1] else prM 1 (nuM 1) (prM 3 t (nuM 2))
def arP (q : Int) : List Nat := if q = 0 then [1] else if q = 1 then [0] else if q = 2 then [1] else if q = 3 then [0] else if q = 4 then [0] else [1, 0]
theorem ar_ard (ts : List KT) (q : Int) : Ard ts (arM q) (arP q) := by
 have c0 := Cx.ard (c := ⟨4, 0, Z32, [laM (vaM 0)], [], []⟩) ⟨by simp [laM, valM], by simp [manyM]⟩ ts (fun x hx => by simp [Cx.plug, shT, shL, shC, kidsM, laM, vaM, hx])
 have c1 := Cx.ard (c := ⟨4, 0, Z32, [], [apM (nuM 0) (nuM 0)], []⟩) ⟨by simp, by simp [manyM]⟩ ts (fun x hx => by simp [Cx.plug, shT, shL, shC, kidsM, apM, nuM, hx])
 have c2 := Cx.ard (c := ⟨8, 0, sumR 3, [nuM 1], [], []⟩) ⟨by simp [nuM, valM], by simp [manyM]⟩ ts (fun x hx => by simp [Cx.plug, shT, shL, shC, kidsM, nuM, hx])
 have c3 := Cx.ard (c := ⟨5, 0, Z32, [], [vaM 0], []⟩) ⟨by simp, by simp [manyM]⟩ ts (fun x hx => by simp [Cx.plug, shT, shL, shC, kidsM, vaM, hx])
 have c4 := Cx.ard (c := ⟨12, 0, sumR 13, [], [vaM 0, vaM 1], []⟩) ⟨by simp, by simp [manyM]⟩ ts (fun x hx => by simp [Cx.plug, shT, shL, shC, kidsM, offM, vaM, hx])
 have c5 := Cx.ard (c := ⟨10, 1, Z32, [nuM 1], [], []⟩) ⟨by simp [nuM, valM], by simp [manyM]⟩ ts (fun x hx => by simp [Cx.plug, shT, shL, shC, kidsM, nuM, hx])
 have c6 := Cx.ard (c := ⟨10, 3, Z32, [], [nuM 2], []⟩) ⟨by simp, by simp [manyM]⟩ ts (fun x hx => by simp [Cx.plug, shT, shL, shC, kidsM, nuM, hx])
 have c56 := c5.comp c6
 unfold arM arP
 split
 ·exact c0
 split
 ·exact c1
 split
 ·exact c2
 split
 ·exact c3
 split
 ·exact c4
 ·exact c56
theorem rt_okt {t : Tm} (h : Rt t) : Okt 0 t := ⟨h.gd, h.lc⟩
theorem ar_rt {t : Tm} (h : Rt t) (q : Int) : Rt (arM q t) := by
 have := rt_okt h
 have n0 : ∀ d n : Int, 0 ≤ n → n ≤ 7 → Okt d (nuM n) := fun d n h1 h2 => ok_nu (by omega)
 have a0 := n0 0 0 (by decide) (by decide)
 have a1 := n0 0 1 (by decide) (by decide)
 have a2 := n0 0 2 (by decide) (by decide)
 have v0 : Okt (0 + 1) (vaM 0) := ok_va (by decide)
 have v1 : ∀ x ∈ [vaM 1], Okt (0 + 2) x := by simp; exact ok_va (by decide)
 have k : Okt 0 (arM q t) := by
  unfold arM
  repeat' split
  ·infer_instance
  ·infer_instance
  ·infer_instance
  ·infer_instance
  ·exact ok_ha (by simp) this v0 v1
  ·exact ok_pr (by decide) a1 (ok_pr (by decide) this a2)
 exact ⟨k.gd, k.lc⟩
theorem ar_size (t : Tm) (q : Int) : tsize t ≤ tsize (arM q t) ∧ tsize (arM q t) ≤ tsize t + 10 ∧ tdeep t ≤ tdeep (arM q t) := by
 unfold arM
 repeat' split
 all_goals (simp [apM, laM, vaM, nuM, coM, leM, haM, prM, tsize, tsizeL, csizeL, tdeep, tdeepL, cdeepL]; omega)
theorem ar_gt {t : Tm} (h : Rt t) {q : Int} (hc : stepCheckM worldT (arM q t) = 0) : Gt worldT t ∧ Gt worldT (arM q t) := by
 have gw : Gt worldT (arM q t) := ⟨ar_rt h q, hc⟩
 refine ⟨⟨h, ?_⟩, gw⟩
 rw [world_check, h.check]
 have hl := gw.long
 obtain ⟨h1, h2⟩ := longT_ls 300 60 t 1 0
 obtain ⟨k1, k2⟩ := longT_ls 300 60 (arM q t) 1 0
 have hs := ar_size t q
 by_cases hb : (0 : Int) + tsize (arM q t) ≤ 300 ∧ (1 : Int) + tdeep (arM q t) ≤ 60 + 1
 ·rw [h1 (by omega)]; rfl
 ·rw [k2 hb] at hl; cases hl
theorem ar_done {t : Tm} (hv : valM t = true) (q : Int) (h : (arP q).length ≤ (stepNextM worldT (arM q t)).2.1.length) : (stepNextM worldT (arM q t)).2.1.take (arP q).length ≠ arP q := by
 have e : (stepNextM worldT (arM q t)).2.1 = [] ∨ (stepNextM worldT (arM q t)).2.1 = placeM (arM q t) := by
  unfold stepNextM
  split
  ·split
   ·exact .inl rfl
   ·exact .inr rfl
  ·exact .inl rfl
 rcases e with e | e
 ·rw [e] at h ⊢
  revert h
  unfold arP
  repeat' split
  all_goals simp
 ·rw [e] at h ⊢
  revert h
  unfold arM arP
  repeat' split
  all_goals simp [apM, laM, vaM, nuM, coM, leM, haM, prM, placeM, placeL, manyM, valM, valL, hv]
theorem ar_says {t : Tm} {q : Int} (g : Gt worldT t) (gw : Gt worldT (arM q t)) (hv : valM t = false) :
  (stepNextM worldT (arM q t)).2.1 = arP q ++ (stepNextM worldT t).2.1 ∧
  ((stepNextM worldT t).1 = 9 → (stepNextM worldT (arM q t)).1 = 9 ∨ (stepNextM worldT (arM q t)).1 = 6 ∨ (stepNextM worldT (arM q t)).1 = 8) ∧
  ((stepNextM worldT t).1 ≠ 9 → (stepNextM worldT (arM q t)).1 = (stepNextM worldT t).1) ∧
  ((stepNextM worldT t).1 ≠ 9 → (stepM worldT t).2 = 0 → (stepM worldT (arM q t)).2 = 0 → (stepM worldT (arM q t)).1 = arM q (stepM worldT t).1) := by
 have a := ar_ard worldT q
 have hs := gd_sh g.rt.gd
 have hv2 := a.val t hv
 have e1 : stepNextM worldT t = (kindM worldT t (placeM t), placeM t, 0) := by simp only [stepNextM, if_pos g.ck, hv, Bool.false_eq_true, if_false]
 have e2 : stepNextM worldT (arM q t) = (kindM worldT (arM q t) (placeM (arM q t)), placeM (arM q t), 0) := by simp only [stepNextM, if_pos gw.ck, hv2, Bool.false_eq_true, if_false]
 rw [e1, e2]
 obtain ⟨k1, k2⟩ := a.kind t hs hv
 refine ⟨a.place t hv, k2, k1, fun h9 f1 f2 => ?_⟩
 have s1 := (step_eq world_rt g.ck g.rt)
 have s2 := (step_eq world_rt gw.ck gw.rt)
 rw [s1.1] at f1 ⊢
 rw [s2.1] at f2 ⊢
 rw [(s1.2 f1).1, (s2.2 f2).1, a.next t hs hv h9]
end Go.Proofs.YtkcgkignhpepkaaGreatDoor

/- StepWithin: the walk. -/
namespace Go.Proofs.YtkcgkignhpepkaaGreatDoor
open Go Hs
theorem cloneI_c {G : List (Nat × TypeId × Pu)} (ps : List Pu) (hlen : ps.length < 1000000000) : OCall Tryz.prog G 45 [.pu (.sl 0 3 ps)] 0 3 ps := by
 refine OCall.of_tri 8 2 Tryz.func45 rfl rfl rfl fun w0 M ρ0 D0 => ?_
 refine Y8 ?_;refine Tri.nilEq rfl (fun b hb => ?_);refine tQ ?_;refine Tri.cond rfl (fun h => ?_) (fun h => ?_)
 ·skip
  refine Y20 ?_;exact Tri.ret ⟨.inr rfl, .inr ⟨rfl, hb h⟩⟩
 ·refine Tri.skip ?_
  refine yR ?_;refine yZ ?_;refine yM ?_;refine s_app0 ?_ ?_
  ·simp; omega
  refine Y14 ?_;exact Tri.ret ⟨.inr rfl, .inl rfl⟩
theorem around_c (t : Tm) (a q : Int) (hq : a.tmod 6 = q) : HCall Tryz.prog gL 42 [.pu (tmc 0 t), .ptr 860 [] 5] [(860, .var 5 (iv .u8 a))] [] (.tup [.pu (tmc 0 (arM q t)), .pu (.sl 0 3 (pathL (arP q)))]) [] [] := by
 refine HCall.of_triD tbl 51 [] Tryz.func42 rfl rfl rfl fun w0 M ρ0 D0 => ?_
 refine yR ?_;refine s_box SS 2 ?_;refine s_alloc SS 3 ?_;refine yB ?_;refine e_seqN [2, 3] ?_;refine Y4 ?_;refine yI ?_;refine e_seq ?_;rw [hq];refine tQ ?_;refine Tri.block ?_;refine Y12 ?_;refine Tri.cond rfl (fun h0 => ?_) (fun h0 => ?_)
 ·skip
  obtain rfl : q = 0 := eq_of_beq h0
  refine yR ?_;refine s_val (v_callD (fun _ => Va_c 0)) ?_;refine s_val (v_callD (fun _ => La_c (vaM 0))) ?_;refine yL ?_;refine s_val (v_callD (fun _ => Ap_c (laM (vaM 0)) t)) ?_;refine yZ ?_;refine Y48 ?_;refine Y18 ?_;exact Tri.ret ⟨.inr rfl, ret2 rfl resV_cell (ToPu.imp (by repeat constructor)) resV_tmp (ToPu.imp (by repeat constructor)), zO⟩
 ·skip
  refine Y12 ?_;refine Tri.cond rfl (fun h1 => ?_) (fun h1 => ?_)
  ·skip
   obtain rfl : q = 1 := eq_of_beq h1
   refine Y4 ?_;refine s_val (v_callD (fun _ => Nu_c 0)) ?_;refine s_val (v_callD (fun _ => Nu_c 0)) ?_;refine s_val (v_callD (fun _ => Ap_c (nuM 0) (nuM 0))) ?_;refine s_val (v_callD (fun _ => Ap_c t (apM (nuM 0) (nuM 0)))) ?_;refine yZ ?_;refine Y48 ?_;refine Y18 ?_;exact Tri.ret ⟨.inr rfl, ret2 rfl resV_cell (ToPu.imp (by repeat constructor)) resV_tmp (ToPu.imp (by repeat constructor)), zO⟩
  ·skip
   refine Y12 ?_;refine Tri.cond rfl (fun h2 => ?_) (fun h2 => ?_)
   ·skip
    obtain rfl : q = 2 := eq_of_beq h2
    refine Y40 ?_;refine s_val (v_callD (fun _ => Nu_c 1)) ?_;refine Y56 ?_;refine s_val (v_callD (fun _ => Co_c (sumR 3) 0 [nuM 1, t])) ?_;refine yZ ?_;refine Y48 ?_;refine Y18 ?_;exact Tri.ret ⟨.inr rfl, ret2 rfl resV_cell (ToPu.imp (by repeat constructor)) resV_tmp (ToPu.imp (by repeat constructor)), zO⟩
   ·skip
    refine Y12 ?_;refine Tri.cond rfl (fun h3 => ?_) (fun h3 => ?_)
    ·skip
     obtain rfl : q = 3 := eq_of_beq h3
     refine Y4 ?_;refine s_val (v_callD (fun _ => Va_c 0)) ?_;refine s_val (v_callD (fun _ => Le_c t (vaM 0))) ?_;refine yZ ?_;refine Y48 ?_;refine Y18 ?_;exact Tri.ret ⟨.inr rfl, ret2 rfl resV_cell (ToPu.imp (by repeat constructor)) resV_tmp (ToPu.imp (by repeat constructor)), zO⟩
    ·skip
     refine Y12 ?_;refine Tri.cond rfl (fun h4 => ?_) (fun h4 => ?_)
     ·skip
      obtain rfl : q = 4 := eq_of_beq h4
      refine Y40 ?_;refine yL ?_;refine s_val (v_callD (fun _ => Va_c 0)) ?_;refine s_val (v_callD (fun _ => Va_c 1)) ?_;refine yZ ?_;refine s_val (v_callD (fun _ => Ha_c (sumR 13) [t, vaM 0, vaM 1])) ?_;refine yZ ?_;refine Y48 ?_;refine Y18 ?_;exact Tri.ret ⟨.inr rfl, ret2 rfl resV_cell (ToPu.imp (by repeat constructor)) resV_tmp (ToPu.imp (by repeat constructor)), zO⟩
     ·skip
      have e0 : q ≠ 0 := by simpa using h0
      have e1 : q ≠ 1 := by simpa using h1
      have e2 : q ≠ 2 := by simpa using h2
      have e3 : q ≠ 3 := by simpa using h3
      have e4 : q ≠ 4 := by simpa using h4
      have ea : arM q t = prM 1 (nuM 1) (prM 3 t (nuM 2)) := by unfold arM; rw [if_neg e0, if_neg e1, if_neg e2, if_neg e3, if_neg e4]
      have ep : arP q = [1, 0] := by unfold arP; rw [if_neg e0, if_neg e1, if_neg e2, if_neg e3, if_neg e4]
      rw [ea, ep];refine Tri.skip ?_;refine yR ?_;refine s_val (v_callD (fun _ => Nu_c 1)) ?_;refine yL ?_;refine s_val (v_callD (fun _ => Nu_c 2)) ?_;refine s_val (v_callD (fun _ => Pr_c 3 t (nuM 2))) ?_;refine s_val (v_callD (fun _ => Pr_c 1 (nuM 1) (prM 3 t (nuM 2)))) ?_;refine yZ ?_;refine Y48 ?_;refine Y18 ?_;exact Tri.ret ⟨.inr rfl, ret2 rfl resV_cell (ToPu.imp (by repeat constructor)) resV_tmp (ToPu.imp (by repeat constructor)), zO⟩
theorem eqP_refl (l : List Nat) : eqLM (fun a b : Nat => (a : Int) == (b : Int)) l l = true := eqLM_refl fun a _ => by simp
theorem ne_self (x : Int) : binV Tryz.prog .neq 3 (iv .i64 x) (iv .i64 x) = some (bv false) := by
 have : intBin .neq .i64 x x = some (bv false) := by simp [intBin]
 simpa [binV, iv] using this
theorem eqLM_iff : ∀ {l m : List Nat}, eqLM (fun a b : Nat => (a : Int) == (b : Int)) l m = true → l = m
 | [], [], _ => rfl
 | [], _ :: _, h => by simp [eqLM] at h
 | _ :: _, [], h => by simp [eqLM] at h
 | a :: l, b :: m, h => by
  simp only [eqLM, Bool.and_eq_true, beq_iff_eq] at h
  rw [eqLM_iff h.2, show a = b by omega]
theorem arP_len (q : Int) : (arP q).length ≤ 2 := by
 unfold arP
 repeat' split
 all_goals simp
set_option maxHeartbeats 8000000 in
set_option maxRecDepth 8000 in
theorem stepWithin_c (cs : List Int) (hcs : cs.length < 2^63) (a : Int) (ha : 0 ≤ a ∧ a ≤ 255) :
  FCall Tryz.prog gL 6 [.pu (.sl 0 5 (byP cs)), iv .u8 a] (bv true) := by
 have hbz : Bz (cs.take 300) := ⟨by simp; omega⟩
 obtain ⟨q, hq⟩ : ∃ q, a.tmod 6 = q := ⟨_, rfl⟩
 have hrt := drawn_ok (cs.take 300) 15 ⟨0, 88172645463325252⟩
 have hsz := drawn_z (cs.take 300) 15 (by omega) ⟨0, 88172645463325252⟩
 have hdc := drawn_c (cs.take 300) 15 (by omega) ⟨0, 88172645463325252⟩ (by decide)
 generalize (drawnM (cs.take 300) 15 ⟨0, 88172645463325252⟩).2 = s9 at hdc
 generalize (drawnM (cs.take 300) 15 ⟨0, 88172645463325252⟩).1 = t at hrt hsz hdc
 have hal := arP_len q
 refine FCall.of_tri tbl 169 Tryz.func6 rfl rfl rfl fun w0 M ρ0 D0 => ?_
 refine yR ?_;refine s_box SS 860 ?_;refine yB ?_;refine e_seqN [860] ?_;refine yR ?_;refine s_val (v_callD (fun _ => World_c)) ?_;refine s_alloc SS 5 ?_;refine yS ?_;refine e_seqN [5] ?_;refine Y1 ?_;refine s_call (of_c cs (by omega)) ?_;refine s_call (hdc) ?_;refine s_alloc SS 6 ?_;refine yS ?_;refine e_seqN [950, 6] ?_;refine yR ?_;refine s_val (v_mkFnD SS) ?_;refine Y14 ?_;refine yR ?_;refine Y33 ?_;refine Tri.block (Tri.loopW (σ := {z : Nat × Tm // Rt z.2 ∧ tsize z.2 ≤ 70000 ∧ z.1 ≤ 12}) (fun i => ⟨[(5, .ptr 5 [] 26), (6, .ptr 6 [] 32), (7, .fn (.func 42) [] [.ptr 860 [] 5]), (26, iv .i64 (i.1.1 : Nat))], [(860, .var 5 (iv .u8 a)), (5, .var 26 (.pu (wdP worldA worldB worldT))), (6, .var 32 (.pu (tmc 0 i.1.2)))]⟩) (fun i => 12 - i.1.1) ⟨(0, t), hrt, hsz, by omega⟩ ?_ ?_ (fun i => ?_))
 ·exact zW
 ·exact zW
 refine Y31 ?_;refine Tri.cond rfl (fun h0 => ?_) (fun h0 => ?_)
 ·skip
  refine Tri.skip ?_;refine tQ ?_;refine Tri.block ?_
  obtain ⟨⟨j, u⟩, hur, huz, hj0⟩ := i
  dsimp only at hur huz hj0 ⊢
  have hj1 : j + 1 ≤ 12 := by have := of_decide_eq_true h0; dsimp only at this; omega
  have hasz := ar_size u q
  refine Y32 ?_;refine s_val (v_callO (fun _ => around_c u a q hq)) ?_;refine Y46 ?_;refine s_alloc SS 8 ?_;refine Y48 ?_;refine e_seqN [8] ?_;refine Y36 ?_;refine s_val (v_callD (fun _ => stepCheck_c worldA worldB worldT (arM q u) wsz (by omega))) ?_;refine Y14 ?_;refine Y61 ?_;refine Tri.cond rfl (fun h1 => ?_) (fun h1 => ?_)
  ·skip
   have h11 : stepCheckM worldT (arM q u) = 11 := by
    have h1' : stepCheckM worldT (arM q u) ≠ 0 := by simpa using h1
    rw [world_check, (ar_rt hur q).check] at h1' ⊢
    cases hl : (longT 300 60 1 0 (arM q u)).1
    ·rw [hl] at h1'; simp at h1'
    ·rfl
   refine Y11 ?_;refine yM ?_;refine s_gg zG (v_callD (fun _ => awake_gL)) ?_;refine yN ?_;refine Y2 ?_;exact Tri.ret ⟨.inr rfl, ret1 rfl resV_tmp (bv_imp (by rw [h11]; rfl))⟩
  ·skip
   obtain ⟨gu, gw⟩ := ar_gt hur (q := q) (by simpa using h1)
   have husz := gu.size
   have hsU := (step_c (G := gL) worldA worldB worldT u wsz (by omega)).at (u := stepV 0 (stepM worldT u)) (fun k => VImps.tup (.cons (tm_imp _) (.cons (VImp.refl _) .nil)) (notTup rfl))
   have hsW := (step_c (G := gL) worldA worldB worldT (arM q u) wsz (by omega)).at (u := stepV 0 (stepM worldT (arM q u))) (fun k => VImps.tup (.cons (tm_imp _) (.cons (VImp.refl _) .nil)) (notTup rfl))
   have hnU := stepNext_c (G := gL) worldA worldB worldT u wsz (by omega)
   have hnW := stepNext_c (G := gL) worldA worldB worldT (arM q u) wsz (by omega)
   obtain ⟨hf0, hsay⟩ := step_says gu
   obtain ⟨hg0, hwsay⟩ := step_says gw
   have hdone := fun hv => ar_done (t := u) hv q
   have hsays := fun hv => ar_says gu gw hv
   have hpl : (stepNextM worldT u).2.1.length ≤ 300 := by
    have := place_len u
    unfold stepNextM
    split
    ·split
     ·simp
     ·simp only; omega
    ·simp
   have hplW : (stepNextM worldT (arM q u)).2.1.length ≤ 400 := by
    have := place_len (arM q u)
    unfold stepNextM
    split
    ·split
     ·simp
     ·simp only; omega
    ·simp
   generalize stepM worldT u = sv at hsU hsay hsays
   obtain ⟨y, er⟩ := sv
   generalize stepM worldT (arM q u) = sw at hsW hwsay hsays
   obtain ⟨yw, ew⟩ := sw
   generalize stepNextM worldT u = nv at hnU hf0 hsay hsays hpl
   obtain ⟨kd, pth, fe⟩ := nv
   generalize stepNextM worldT (arM q u) = nw at hnW hg0 hwsay hdone hsays hplW
   obtain ⟨kw, pw, fw⟩ := nw
   dsimp only at hf0 hg0 hsay hwsay hdone hsays hpl hplW
   subst hf0 hg0;refine Tri.skip ?_;refine Y36 ?_;refine s_val (v_callD (fun _ => hnU)) ?_;refine Y46 ?_;refine yX ?_;refine yA ?_;refine yA ?_;refine Y14 ?_;refine Y36 ?_;refine s_val (v_callD (fun _ => hnW)) ?_;refine Y46 ?_;refine yX ?_;refine yA ?_;refine yA ?_;refine Y14 ?_;refine Y11 ?_;refine Y22 ?_;refine Y24 ?_;refine Y0 ?_;refine Tri.cond rfl (fun h2 => ?_) (fun h2 => ?_)
   ·exfalso
    simp at h2
   ·skip
    refine Tri.skip ?_;refine Y61 ?_;refine Tri.cond rfl (fun h3 => ?_) (fun h3 => ?_)
    ·skip
     have hk0 : kd = 0 := eq_of_beq h3
     have hv : valM u = true := by
      rcases hsay with ⟨hv, _⟩ | ⟨_, hk, _⟩ | ⟨_, hk, _⟩
      ·exact hv
      ·omega
      ·omega
     have hd := hdone hv
     have htk : (pathL pw).take (pathL (arP q)).length = pathL (pw.take (arP q).length) := by rw [path_len]; simp [pathL, List.map_take]
     have hnd : (arP q).length ≤ pw.length → eqLM (fun a b : Nat => (a : Int) == (b : Int)) (pw.take (arP q).length) (arP q) = false := fun h => by
      cases he : eqLM (fun a b : Nat => (a : Int) == (b : Int)) (pw.take (arP q).length) (arP q)
      ·rfl
      ·exact absurd (eqLM_iff he) (hd h)
     by_cases hle : (arP q).length ≤ pw.length
     all_goals
      refine Y37 ?_;refine yM ?_;refine yC ?_;refine yI ?_;refine Y22 ?_;refine xM ?_;refine xC ?_
      first | (have hle' : (pathL (arP q)).length ≤ (pathL pw).length := by (rw [path_len, path_len]; exact hle)); refine s_gg zG (v_sliceTo SS (ps := pathL pw) (r := (pathL (arP q)).length) hle') ?_; rw [htk] | refine s_gg zG (u := .pu (.sl 0 3 (pathL (pw.take (arP q).length)))) (r := []) (hr := []) ⟨fun hg => absurd (of_decide_eq_true hg) (by rw [path_len, path_len]; show ¬ ((pw.length : Int) ≥ ((arP q).length : Int)); omega)⟩ ?_
      refine xM ?_;refine s_gg zG (v_callD (fun _ => eqPath_c (pw.take (arP q).length) (arP q) (by simp; omega) (by omega))) ?_;refine yN ?_;refine yQ ?_;refine yM ?_;refine s_gg zG (v_callD (fun _ => awake_gL)) ?_;refine yN ?_;refine Y2 ?_;exact Tri.ret ⟨.inr rfl, ret1 rfl resV_tmp (bv_imp (by first | simp [path_len, hle, hnd hle] | simp [path_len, hle]))⟩
    ·skip
     have hk0 : kd ≠ 0 := by simpa using h3
     have hv : valM u = false := by
      rcases hsay with ⟨_, _, hk, _⟩ | ⟨hv, _⟩ | ⟨hv, _⟩
      ·exact absurd hk hk0
      ·exact hv
      ·exact hv
     obtain ⟨e1, e2, e3, e4⟩ := hsays hv
     subst e1;refine Tri.skip ?_;refine Y61 ?_;refine Tri.cond rfl (fun h4 => ?_) (fun h4 => ?_)
     ·skip
      have hk9 : kd = 9 := eq_of_beq h4
      have hpa : pathL (arP q) ++ pathL pth = pathL (arP q ++ pth) := by simp [pathL]
      rcases e2 hk9 with rfl | rfl | rfl
      all_goals
       refine Y11 ?_;refine Y22 ?_;refine Y24 ?_;refine Y22 ?_;refine Y24 ?_;refine Y22 ?_;refine xM ?_;refine s_callOg rfl (cloneI_c (pathL (arP q)) (by rw [path_len]; omega)) ?_;refine xM ?_;refine s_appSg rfl ?_ ?_
       ·simp [path_len]; omega
       rw [hpa];refine s_gg zG (v_callD (fun _ => eqPath_c (arP q ++ pth) (arP q ++ pth) (by omega) (by omega))) ?_;refine yN ?_;refine yM ?_;refine s_gg zG (v_callD (fun _ => awake_gL)) ?_;refine yN ?_;refine Y2 ?_;exact Tri.ret ⟨.inr rfl, ret1 rfl resV_tmp (bv_imp (by simp [eqP_refl]))⟩
     ·skip
      have hk9 : kd ≠ 9 := by simpa using h4
      have hpa : pathL (arP q) ++ pathL pth = pathL (arP q ++ pth) := by simp [pathL]
      obtain rfl := e3 hk9
      refine Tri.skip ?_;refine Y29 ?_;refine s_val (v_bin SS (h := ne_self kw)) ?_;refine Y22 ?_;refine xM ?_;refine s_callOg rfl (cloneI_c (pathL (arP q)) (by rw [path_len]; omega)) ?_;refine xM ?_;refine s_appSg rfl ?_ ?_
      ·simp [path_len]; omega
      rw [hpa];refine s_gg zG (v_callD (fun _ => eqPath_c (arP q ++ pth) (arP q ++ pth) (by omega) (by omega))) ?_;refine xQ ?_;refine yO ?_;refine Y0 ?_;refine Tri.cond rfl (fun h5 => ?_) (fun h5 => ?_)
      ·exfalso
       simp [eqP_refl] at h5
      ·skip
       refine Tri.skip ?_;refine Y61 ?_;refine Tri.cond rfl (fun h6 => ?_) (fun h6 => ?_)
       ·skip
        refine yR ?_;refine s_val (v_callD (fun _ => awake_gL)) ?_;refine Y2 ?_;exact Tri.ret ⟨.inr rfl, ret1 rfl resV_tmp (VImp.refl _)⟩
       ·skip
        have hk8 : kw ≠ 8 := by simpa using h6
        have hs7 : er = 11 ∨ er = 0 ∧ y = nextM worldT u ∧ Gt worldT (nextM worldT u) := by
         rcases hsay with ⟨_, _, h, _⟩ | ⟨_, h, _⟩ | ⟨_, _, _, _, _, h⟩
         ·exact absurd h hk0
         ·omega
         ·exact h
        have hw7 : ew = 11 ∨ ew = 0 ∧ yw = nextM worldT (arM q u) ∧ Gt worldT (nextM worldT (arM q u)) := by
         rcases hwsay with ⟨_, _, h, _⟩ | ⟨_, h, _⟩ | ⟨_, _, _, _, _, h⟩
         ·exact absurd h hk0
         ·omega
         ·exact h
        refine Tri.skip ?_;refine Y36 ?_;refine s_val (v_callD (fun _ => hsU)) ?_;refine Y46 ?_;refine s_alloc SS 17 ?_;refine Y48 ?_;refine e_seqN [17] ?_;refine Y36 ?_;refine s_val (v_callD (fun _ => hsW)) ?_;refine Y46 ?_;refine s_alloc SS 18 ?_;refine Y48 ?_;refine e_seqN [18] ?_;refine Y11 ?_;refine Y22 ?_;refine Y24 ?_;refine Y0 ?_;refine Tri.cond rfl (fun h7 => ?_) (fun h7 => ?_)
        ·skip
         refine Y11 ?_;refine Y22 ?_;refine s_gg zG (v_callD (fun _ => tooMuch_c _)) ?_;refine yO ?_;refine Y22 ?_;refine xI ?_;refine xM ?_;refine xM ?_;refine s_gg zG (v_callD (fun _ => tooMuch_c _)) ?_;refine xO ?_;refine yN ?_;refine yM ?_;refine s_gg zG (v_callD (fun _ => awake_gL)) ?_;refine yN ?_;refine Y2 ?_;exact Tri.ret ⟨.inr rfl, ret1 rfl resV_tmp (bv_imp (by rcases hs7 with rfl | ⟨rfl, _⟩ <;> rcases hw7 with rfl | ⟨rfl, _⟩ <;> rfl))⟩
        ·skip
         have h7' : er = 0 ∧ ew = 0 := by simpa using h7
         obtain ⟨_, hy, gy⟩ := hs7.resolve_left (by omega)
         obtain ⟨_, hyw, gyw⟩ := hw7.resolve_left (by omega)
         rw [← hy] at gy
         rw [← hyw] at gyw
         have e5 := e4 hk9 h7'.1 h7'.2
         have hyr := gy.rt
         have hyz0 := gy.size
         have hyz : tsize y ≤ 70000 := by omega
         have hyz2 := gyw.size
         have hyz3 := ar_size y q
         refine Tri.skip ?_;refine Y32 ?_;refine s_val (v_callO (fun _ => around_c y a q hq)) ?_;refine Y46 ?_;refine s_alloc SS 19 ?_;refine Y48 ?_;refine e_seqN [19] ?_;refine Y36 ?_;refine s_val (v_callD (fun _ => sameT_c _ yw (arM q y) (Nat.le_refl _) (by omega) (by omega))) ?_;refine yQ ?_;refine Y0 ?_;refine Tri.cond rfl (fun h8 => ?_) (fun h8 => ?_)
         ·exfalso
          rw [e5] at h8
          simp [sameT_refl] at h8
         ·skip
          refine Tri.skip ?_;refine Y4 ?_;refine Y17 ?_;refine Y27 ?_
          refine ⟨⟨(j + 1, y), hyr, hyz, hj1⟩, by show 12 - (j + 1) < 12 - j; omega, le_of ?_ ?_⟩
          ·exact zE
          ·exact zH
 ·skip
  refine Tri.exit ?_;refine yR ?_;refine s_val (v_callD (fun _ => awake_gL)) ?_;refine Y2 ?_;exact Tri.ret ⟨.inr rfl, ret1 rfl resV_tmp (VImp.refl _)⟩
end Go.Proofs.YtkcgkignhpepkaaGreatDoor

