/- Part 6 of the proof: lemmas on walks and the walks of the functions, in their order. -/
import Derived.Test.YtkcgkignhpepkaaGreatDoorV5
import Derived.OpenShut
import Derived.Deep.DeepHandedRow
set_option linter.unusedSimpArgs false
set_option linter.unusedVariables false
set_option linter.unusedSectionVars false
set_option linter.constructorNameAsVariable false
/- The maker's variables, and small terms. -/
namespace Go.Proofs.YtkcgkignhpepkaaGreatDoor
open Go Hs
abbrev mkO (bs : List Int) (s : Sd) (l : Int) : List (Nat × Ob) := [(951, .var 174 (.agg 174 [.ptr 950 [] 171, iv .i64 l])), (950, .var 171 (.pu (stP bs s)))]
structure Vk (v : List Ty) (n : Nat) : Prop where
 len : v.length + 4 * n ≤ 1000
 sm : ∀ u ∈ v, ysize u ≤ 3
theorem Vk.app {v w : List Ty} {n : Nat} (h : Vk v (n + 1)) (hw : w.length ≤ 4) (hs : ∀ u ∈ w, ysize u ≤ 3) : Vk (v ++ w) n := ⟨by have := h.len; simp; omega, fun u hu => by
 rcases List.mem_append.1 hu with hu | hu
 ·exact h.sm u hu
 ·exact hs u hu⟩
theorem Vk.less {v : List Ty} {n : Nat} (h : Vk v (n + 1)) : Vk v n := ⟨by have := h.len; omega, h.sm⟩
theorem bt_small (x : BT) : ysize x.ty ≤ 3 := by cases x <;> simp [BT.ty, natY, ysize, ysizeL]
theorem bt_one (x : BT) : ysize x.ty = 1 := by cases x <;> simp [BT.ty, natY, ysize, ysizeL]
theorem tt_small (t : TT) : ysize t.ty ≤ 3 := by
 cases t with
 | ba x => exact bt_small x
 | li x => simp [TT.ty, ysize, ysizeL, bt_one x]
 | op x => simp [TT.ty, ysize, ysizeL, bt_one x]
 | pa x y => simp [TT.ty, ysize, ysizeL, bt_one x, bt_one y]
 | fn x => simp [TT.ty, natY, ysize, ysizeL, bt_one x]
theorem tms_app (a b : List Tm) {lo : Nat} : tmsc lo (a ++ b) = tmsc lo a ++ tmsc lo b := by simp [tms_eq]
theorem kn_yes {v : List Ty} {t : Ty} {i : Nat} (hi : i < v.length) (h : sameTy v[i] t = true) : knM v t (i + 1) = knM v t i ++ [vaM ((v.length : Int) - 1 - i)] := by
 simp [knM, List.range_succ, List.filterMap_append, hi, h]
theorem kn_no {v : List Ty} {t : Ty} {i : Nat} (hi : i < v.length) (h : sameTy v[i] t = false) : knM v t (i + 1) = knM v t i := by
 simp [knM, List.range_succ, List.filterMap_append, hi, h]
theorem kn_len (v : List Ty) (t : Ty) (i : Nat) : (knM v t i).length ≤ i := by
 unfold knM
 exact Nat.le_trans (List.length_filterMap_le _ _) (by simp)
variable (bs : List Int) [hz : Bz bs]
theorem some_c (s : Sd) (l : Int) {k : Int} [h : Bd s l k] (hk : k ≤ 1000 := by decide) : HCall Tryz.prog gL 174 [.ptr 951 [] 174] [] (mkO bs s l) (.pu (tyc (someM bs s).1.ty)) (mkO bs (someM bs s).2 l) [] := by
 refine HCall.of_triD tbl 20 [950, 951] Tryz.func174 rfl rfl rfl fun w0 M ρ0 D0 => ?_
 refine yR ?_;refine s_alloc SS 2 ?_;refine e_seqN [2] ?_;refine Y53 ?_;refine s_call (seldom_c bs 5 s (by omega)) ?_;refine Y0 ?_;refine Tri.cond rfl (fun h0 => ?_) (fun h0 => ?_)
 ·skip
  have e : someM bs s = (.fn (plain0M bs (seldomM bs 5 s).2).1, (plain0M bs (seldomM bs 5 s).2).2) := by simp [someM, h0]
  rw [e];refine yR ?_;refine s_val (v_callD (fun _ => N_c)) ?_;refine yM ?_;refine Y16 ?_;refine s_call (plain0_c bs (seldomM bs 5 s).2 (by omega)) ?_;refine s_val (v_callD (fun _ => F_c natY _)) ?_;refine Y25 ?_;exact Tri.ret ⟨.inr rfl, ret1 rfl resV_cell (VImp.refl _), zO⟩
 ·skip
  have e : someM bs s = plain1M bs (seldomM bs 5 s).2 := by simp [someM, h0]
  rw [e];refine Tri.skip ?_;refine Y53 ?_;refine s_call (plain1_c bs (seldomM bs 5 s).2 (by omega)) ?_;refine Y12 ?_;exact Tri.ret ⟨.inr rfl, ret1 rfl resV_cell (VImp.refl _), zO⟩
theorem held_c (v : List Ty) (hvl : v.length ≤ 1020) (hvs : ∀ u ∈ v, ysize u ≤ 3) (t : Ty) (ht : ysize t ≤ 3) (s : Sd) (l : Int) {k : Int} [h : Bd s l k] (hk : k ≤ 1000 := by decide) : HCall Tryz.prog gL 173 [.ptr 951 [] 174, .pu (tyc t), .pu (.sl 0 58 (tysc v))] [] (mkO bs s l) (.tup [.pu (tmc 0 (heldM bs v t s).1.1), bv (heldM bs v t s).1.2]) (mkO bs (heldM bs v t s).2 l) [] := by
 have hyl := tys_length v
 refine HCall.of_triD tbl 45 [950, 951] Tryz.func173 rfl rfl rfl fun w0 M ρ0 D0 => ?_
 refine yR ?_;refine s_box SS 4 ?_;refine s_alloc SS 6 ?_;refine yB ?_;refine e_seqN [4, 6] ?_;refine Y44 ?_;refine Y36 ?_;refine Tri.block (Tri.loopW (σ := {i : Nat // i ≤ v.length}) (fun i => ⟨[(0, .ptr 951 [] 174), (2, .pu (.sl 0 58 (tysc v))), (4, .ptr 4 [] 58), (6, .ptr 6 [] 32), (8, .ow 0 32 (tmsc 0 (knM v t i.1))), (11, .pu (.sl 0 58 (tysc v))), (12, iv .i64 (tysc v).length), (13, iv .i64 i.1)], [(4, .var 58 (.pu (tyc t))), (6, .var 32 (.pu (tmc 0 zeroM)))] ++ mkO bs s l⟩) (fun i => v.length - i.1) ⟨0, Nat.zero_le _⟩ ?_ ?_ (fun i => ?_))
 ·exact zW
 ·exact zW
 refine Y34 ?_;refine Tri.cond rfl (fun h0 => ?_) (fun h0 => ?_)
 ·skip
  have hi : i.1 < v.length := by have := of_decide_eq_true h0; omega
  refine Tri.skip ?_;refine tQ ?_;refine Tri.block ?_;refine Y1 ?_;refine s_val (v_index SS (h0 := by omega) (hp := tys_get hi)) ?_;refine yL ?_;refine s_alloc SS 10 ?_;refine yA ?_;refine yS ?_;refine e_seqN [10] ?_;refine Y39 ?_;refine s_val (v_callD (fun _ => sameY_c _ v[i.1] t (Nat.le_refl _) (by have := hvs _ (List.getElem_mem hi); omega) (by omega))) ?_;refine Y0 ?_;refine Tri.cond rfl (fun h1 => ?_) (fun h1 => ?_)
  ·skip
   have hn := kn_yes hi h1
   have hkl := kn_len v t i.1
   have e1 : IntKind.i64.wrap (IntKind.i64.wrap ((tysc v).length - 1) - i.1) = (v.length : Int) - 1 - i.1 := by rw [wrap64 (n := ((tysc v).length : Int) - 1) (by omega) (by omega), hyl, wrap64 (by omega) (by omega)]
   refine Y32 ?_;refine yC ?_;refine yI ?_;refine yM ?_;refine yI ?_;rw [e1];refine s_val (v_callD (fun _ => Va_c _)) ?_;refine yZ ?_;refine s_app1 8 ?_ ?_
   ·rw [tms_length]; simp; omega
   refine Y13 ?_;refine Y27 ?_
   refine ⟨⟨i.1 + 1, hi⟩, by show v.length - (i.1 + 1) < v.length - i.1; omega, le_of ?_ ?_⟩
   ·repeat (first | exact SubE.nil | refine SubE.cons rfl (by first | rfl | (rw [wrap64 (by omega) (by omega)]; rfl) | (first | (rw [hn, tms_app]; rfl) | (rw [hn]))) ?_)
   ·repeat (first | exact SubH.nil | refine SubH.cons rfl (by first | rfl | (rw [wrap64 (by omega) (by omega)]; rfl) | (first | (rw [hn, tms_app]; rfl) | (rw [hn]))) ?_)
  ·skip
   have hn := kn_no hi (by simpa using h1)
   refine Tri.skip ?_;refine Y27 ?_
   refine ⟨⟨i.1 + 1, hi⟩, by show v.length - (i.1 + 1) < v.length - i.1; omega, le_of ?_ ?_⟩
   ·repeat (first | exact SubE.nil | refine SubE.cons rfl (by first | rfl | (rw [wrap64 (by omega) (by omega)]; rfl) | (first | (rw [hn, tms_app]; rfl) | (rw [hn]))) ?_)
   ·repeat (first | exact SubH.nil | refine SubH.cons rfl (by first | rfl | (rw [wrap64 (by omega) (by omega)]; rfl) | (first | (rw [hn, tms_app]; rfl) | (rw [hn]))) ?_)
 ·skip
  have hi : i.1 = v.length := by have := of_decide_eq_false h0; have := i.2; omega
  rw [hi]
  have hkl := kn_len v t v.length
  have hkt := tms_length (lo := 0) (knM v t v.length)
  refine Tri.exit ?_;refine Y1 ?_;refine yC ?_;refine Y55 ?_;refine Tri.cond rfl (fun h2 => ?_) (fun h2 => ?_)
  ·skip
   have e : heldM bs v t s = ((zeroM, false), s) := by
    have h9 : ((tmsc 0 (knM v t v.length)).length : Int) = 0 := eq_of_beq h2
    unfold heldM
    rw [if_pos (by omega)]
   rw [e];refine yR ?_;refine yT ?_;refine yS ?_;refine Y43 ?_;exact Tri.ret ⟨.inr rfl, ret2 rfl resV_cell (ToPu.imp (by repeat constructor)) resV_tmp (VImp.refl _), zO⟩
  ·skip
   have hne : (knM v t v.length).length ≠ 0 := by intro e; rw [hkt, e] at h2; simp at h2
   have e : heldM bs v t s = (((knM v t v.length).getD (lessM bs (knM v t v.length).length s).1.toNat zeroM, true), (lessM bs (knM v t v.length).length s).2) := by unfold heldM; rw [if_neg hne]
   rw [e]
   have hb := less_b bs s (n := ((knM v t v.length).length : Int)) (by omega)
   have hp : (tmsc 0 (knM v t v.length))[(lessM bs (knM v t v.length).length s).1.toNat]? = some (tmc 0 ((knM v t v.length).getD (lessM bs (knM v t v.length).length s).1.toNat zeroM)) := by
    have hlt : (lessM bs (knM v t v.length).length s).1.toNat < (knM v t v.length).length := by omega
    rw [tms_get hlt, List.getD_eq_getElem?_getD, List.getElem?_eq_getElem hlt]
    rfl
   refine Tri.skip ?_;refine Y32 ?_;refine Y16 ?_;refine yM ?_;refine yC ?_;rw [hkt];refine s_call (less_c bs _ s (by omega)) ?_;refine s_val (v_index SS (h0 := hb.1) (hp := hp)) ?_;refine yL ?_;refine yS ?_;refine Y43 ?_;exact Tri.ret ⟨.inr rfl, ret2 rfl resV_cell (VImp.refl _) resV_tmp (VImp.refl _), zO⟩
theorem tt_fn {t : TT} {k n : Int} {r : List Int} {ks : List Ty} (h : t.ty = .mk k n r ks) (hk : k = 3) : ∃ x, t = .fn x ∧ n = 0 ∧ r = Z32 ∧ ks = [natY, x.ty] := by
 subst hk
 rcases t with (_ | _) | x | x | ⟨x, y⟩ | x <;> simp [TT.ty, BT.ty, natY] at h
 obtain ⟨rfl, rfl, rfl⟩ := h
 exact ⟨x, rfl, rfl, rfl, rfl⟩
theorem tt_nat {t : TT} {k n : Int} {r : List Int} {ks : List Ty} (h : t.ty = .mk k n r ks) (hk : k = 2) : t = .ba .n := by
 subst hk
 rcases t with (_ | _) | x | x | ⟨x, y⟩ | x <;> simp [TT.ty, BT.ty, natY] at h ⊢
theorem tt_bool {t : TT} {k n : Int} {r : List Int} {ks : List Ty} (h : t.ty = .mk k n r ks) (hk : r = sumR 1) : t = .ba .b := by
 subst hk
 rcases t with (_ | _) | x | x | ⟨x, y⟩ | x <;> simp [TT.ty, BT.ty, natY, sumR, Z32, List.replicate] at h ⊢
theorem tt_list {t : TT} {k n : Int} {r : List Int} {ks : List Ty} (h : t.ty = .mk k n r ks) (hk : r = sumR 2) : ∃ x, t = .li x ∧ k = 4 ∧ n = 0 ∧ ks = [x.ty] := by
 subst hk
 rcases t with (_ | _) | x | x | ⟨x, y⟩ | x <;> simp [TT.ty, BT.ty, natY, sumR, Z32, List.replicate] at h
 obtain ⟨rfl, rfl, rfl⟩ := h
 exact ⟨x, rfl, rfl, rfl, rfl⟩
theorem tt_pair {t : TT} {k n : Int} {r : List Int} {ks : List Ty} (h : t.ty = .mk k n r ks) (hk : r = sumR 3) : ∃ x y, t = .pa x y ∧ k = 4 ∧ n = 0 ∧ ks = [x.ty, y.ty] := by
 subst hk
 rcases t with (_ | _) | x | x | ⟨x, y⟩ | x <;> simp [TT.ty, BT.ty, natY, sumR, Z32, List.replicate] at h
 obtain ⟨rfl, rfl, rfl⟩ := h
 exact ⟨x, y, rfl, rfl, rfl, rfl⟩
theorem tt_opt {t : TT} {k n : Int} {r : List Int} {ks : List Ty} (h : t.ty = .mk k n r ks) (hk : r = sumR 4) : ∃ x, t = .op x ∧ k = 4 ∧ n = 0 ∧ ks = [x.ty] := by
 subst hk
 rcases t with (_ | _) | x | x | ⟨x, y⟩ | x <;> simp [TT.ty, BT.ty, natY, sumR, Z32, List.replicate] at h
 obtain ⟨rfl, rfl, rfl⟩ := h
 exact ⟨x, rfl, rfl, rfl, rfl⟩
theorem tt_rest {t : TT} {k n : Int} {r : List Int} {ks : List Ty} (h : t.ty = .mk k n r ks) (h3 : ¬ k = 3) (h2 : ¬ k = 2) (hb : ¬ r = sumR 1) (hp : ¬ r = sumR 3) : (∃ x, t = .li x ∧ r = sumR 2) ∨ ∃ x, t = .op x ∧ r = sumR 4 := by
 rcases t with (_ | _) | x | x | ⟨x, y⟩ | x <;> simp [TT.ty, BT.ty, natY] at h
 ·exact absurd h.1.symm h2
 ·exact absurd h.2.2.1.symm hb
 ·exact .inl ⟨x, rfl, h.2.2.1.symm⟩
 ·exact .inr ⟨x, rfl, h.2.2.1.symm⟩
 ·exact absurd h.2.2.1.symm hp
 ·exact absurd h.1.symm h3
theorem tt_ref {t : TT} {k n : Int} {r : List Int} {ks : List Ty} (h : t.ty = .mk k n r ks) : r.length = 32 := by
 rcases t with (_ | _) | x | x | ⟨x, y⟩ | x <;> simp [TT.ty, BT.ty, natY] at h
 all_goals (obtain ⟨_, _, rfl, _⟩ := h; rfl)
theorem keep_seldom {v : List Ty} {t : Ty} {base : Sd → Tm × Sd} {s : Sd} (h : ¬ ((heldM bs v t s).1.2 = true ∧ (seldomM bs 3 (heldM bs v t s).2).1 = false)) :
  keepM bs v t base s = base (if (heldM bs v t s).1.2 = true then (seldomM bs 3 (heldM bs v t s).2).2 else (heldM bs v t s).2) := by
 unfold keepM
 split
 ·rename_i h1
  rw [if_neg (fun h2 => h ⟨h1, h2⟩)]
 ·rfl
set_option maxHeartbeats 1000000 in
theorem leafN_c (t : TT) (v : List Ty) (hvl : v.length ≤ 1020) (hvs : ∀ u ∈ v, ysize u ≤ 3) (s : Sd) (l : Int) {k : Int} [h : Bd s l k] (hk : k ≤ 900) (hk2 : k ≤ 800 ∨ ∃ x, t = .ba x)
  (ih : (∀ x, t ≠ .ba x) → ∀ (x : BT) (w : List Ty), w.length ≤ v.length + 1 → (∀ u ∈ w, ysize u ≤ 3) → ∀ (s : Sd) (k : Int) [Bd s l k], k ≤ 850 → HCall Tryz.prog gL 172 [.ptr 951 [] 174, .pu (tyc x.ty), .pu (.sl 0 58 (tysc w))] [] (mkO bs s l) (.pu (tmc 0 (leaf0M bs x w s).1)) (mkO bs (leaf0M bs x w s).2 l) []) :
  HCall Tryz.prog gL 172 [.ptr 951 [] 174, .pu (tyc t.ty), .pu (.sl 0 58 (tysc v))] [] (mkO bs s l) (.pu (tmc 0 (leafM bs t v s).1)) (mkO bs (leafM bs t v s).2 l) [] := by
 obtain ⟨k', n', r', ks', hty⟩ : ∃ k n r ks, t.ty = .mk k n r ks := by rcases t.ty with ⟨a, b, c, d⟩; exact ⟨a, b, c, d, rfl⟩
 have hrl := tt_ref hty
 have hs1 : (sumR 1).length = 32 := by decide
 have hs3 : (sumR 3).length = 32 := by decide
 have hh := held_c bs v hvl hvs t.ty (tt_small t) s l (by omega)
 have hb1 : Bd (heldM bs v t.ty s).2 l (k + 1) := inferInstance
 have hb2 : Bd (if (heldM bs v t.ty s).1.2 = true then (seldomM bs 3 (heldM bs v t.ty s).2).2 else (heldM bs v t.ty s).2) l (k + 2) := by
  split
  ·exact Bd.mono (inferInstance : Bd (seldomM bs 3 (heldM bs v t.ty s).2).2 l (k + 1 + 1)) (by omega)
  ·exact Bd.mono hb1 (by omega)
 have hks := keep_seldom bs (v := v) (t := t.ty) (base := base1M bs v t) (s := s)
 have hk1 : (heldM bs v t.ty s).1.2 = true → (seldomM bs 3 (heldM bs v t.ty s).2).1 = false → leafM bs t v s = ((heldM bs v t.ty s).1.1, (seldomM bs 3 (heldM bs v t.ty s).2).2) := fun h1 h2 => by
  unfold leafM keepM
  rw [if_pos h1, if_pos h2]
 rw [hty] at hh ⊢
 refine HCall.of_triD tbl 91 [950, 951] Tryz.func172 rfl rfl rfl fun w0 M ρ0 D0 => ?_
 have hle := hks
 rw [hty] at hb1 hb2 hks hk1
 generalize hg : heldM bs v (.mk k' n' r' ks') s = q at hh hb1 hb2 hks hk1
 obtain ⟨⟨x, b⟩, s1⟩ := q
 simp only at hh hb1 hb2 hks hk1
 refine yR ?_;refine s_box SS 4 ?_;refine s_alloc SS 6 ?_;refine e_seqN [4, 6] ?_;refine Y33 ?_;refine yM ?_;refine s_call (hh) ?_;refine Y51 ?_;refine s_alloc SS 7 ?_;refine yS ?_;refine yA ?_;refine e_seqN [7] ?_;refine Y1 ?_;refine Y24 ?_;refine s_gg zG (v_nilCheck SS) ?_;refine Y8 ?_;refine s_callG zG (f := 115) (args := [.ptr 950 [] 171, iv .i64 3]) (HR := []) (H := stO bs s1) (H' := stO bs (if b = true then (seldomM bs 3 s1).2 else s1)) (v := bv (seldomM bs 3 s1).1) (fun e => ?_) (fun e => ?_) ?_
 ·have e' : b = true := by simpa using e
  rw [if_pos e'];exact seldom_c bs 3 s1 (by omega)
 ·have e' : ¬ b = true := by simpa using e
  exact .cons rfl (by simp [e']) .nil
 refine xQ ?_;refine yN ?_;refine Y0 ?_;refine Tri.cond rfl (fun h0 => ?_) (fun h0 => ?_)
 ·skip
  have hb3 : b = true ∧ (seldomM bs 3 s1).1 = false := by simpa using h0
  have e := hk1 hb3.1 hb3.2
  rw [e, if_pos hb3.1];refine Y60 ?_;exact Tri.ret ⟨.inr rfl, ret1 rfl resV_cell (VImp.refl _), zO⟩
 ·skip
  have hb3 : ¬ (b = true ∧ (seldomM bs 3 s1).1 = false) := by intro hh; simp [hh.1, hh.2] at h0
  have hleaf : leafM bs t v s = base1M bs v t (if b = true then (seldomM bs 3 s1).2 else s1) := by unfold leafM; rw [hty]; exact hks hb3
  clear hks hk1 hh
  generalize (if b = true then (seldomM bs 3 s1).2 else s1) = s2 at hb2 hleaf ⊢
  refine Tri.skip ?_;refine tQ ?_;refine Tri.block ?_;refine Y29 ?_;refine Y2 ?_;refine Tri.cond rfl (fun h1 => ?_) (fun h1 => ?_)
  ·skip
   obtain ⟨x, rfl, rfl, rfl, rfl⟩ := tt_fn hty (by simpa using h1)
   have hk3 : k ≤ 800 := hk2.resolve_right fun ⟨y, hy⟩ => by cases hy
   rw [hleaf];refine Y1 ?_;refine Y7 ?_;refine s_val (v_index SS (h0 := by omega) (hp := (rfl : (tysc [natY, x.ty])[1]? = some _))) ?_;refine yL ?_;refine yM ?_;refine Y7 ?_;refine s_val (v_index SS (h0 := by omega) (hp := (rfl : (tysc [natY, x.ty])[0]? = some _))) ?_;refine Y47 ?_;refine s_val (v_callD (fun _ => bound_c v [natY] (by omega) (by simp))) ?_;refine s_call (ih (fun y hy => by cases hy) x (v ++ [natY]) (by simp) (fun u hu => by simp at hu; rcases hu with hu | rfl; exact hvs u hu; simp [natY, ysize, ysizeL]) s2 _ (by omega)) ?_;refine s_val (v_callD (fun _ => La_c _)) ?_;refine Y25 ?_;exact Tri.ret ⟨.inr rfl, ret1 rfl resV_cell (VImp.refl _), zO⟩
  ·skip
   refine Y29 ?_;refine Y2 ?_;refine Tri.cond rfl (fun h2 => ?_) (fun h2 => ?_)
   ·skip
    obtain rfl := tt_nat hty (by simpa using h2)
    rw [hleaf];refine Y53 ?_;refine s_call (less_c bs 4 s2 (by omega)) ?_;refine s_val (v_callD (fun _ => Nu_c _)) ?_;refine Y12 ?_;exact Tri.ret ⟨.inr rfl, ret1 rfl resV_cell (VImp.refl _), zO⟩
   ·skip
    refine Y15 ?_;refine yG ?_;refine s_val (v_bin SS (h := bin_eqS (hrl.trans hs1.symm))) ?_;refine Y2 ?_;refine Tri.cond rfl (fun h3 => ?_) (fun h3 => ?_)
    ·skip
     obtain rfl := tt_bool hty (by simpa using h3)
     rw [hleaf];refine Y38 ?_;refine yM ?_;refine Y16 ?_;refine s_call (less_c bs 2 s2 (by omega)) ?_;refine s_val (v_callD (fun _ => Co_c (sumR 1) _ [])) ?_;refine Y25 ?_;exact Tri.ret ⟨.inr rfl, ret1 rfl resV_cell (VImp.refl _), zO⟩
    ·skip
     refine Y15 ?_;refine yG ?_;refine s_val (v_bin SS (h := bin_eqS (hrl.trans hs3.symm))) ?_;refine Y2 ?_;refine Tri.cond rfl (fun h4 => ?_) (fun h4 => ?_)
     ·skip
      obtain ⟨x, y, rfl, rfl, rfl, rfl⟩ := tt_pair hty (by simpa using h4)
      have hk3 : k ≤ 800 := hk2.resolve_right fun ⟨y, hy⟩ => by cases hy
      rw [hleaf];refine Y38 ?_;refine yM ?_;refine Y7 ?_;refine s_val (v_index SS (h0 := by omega) (hp := (rfl : (tysc [x.ty, y.ty])[0]? = some _))) ?_;refine yL ?_;refine yM ?_;refine s_call (ih (fun y hy => by cases hy) x v (by omega) hvs s2 _ (by omega)) ?_;refine yM ?_;refine Y7 ?_;refine s_val (v_index SS (h0 := by omega) (hp := (rfl : (tysc [x.ty, y.ty])[1]? = some _))) ?_;refine yL ?_;refine yM ?_;refine s_call (ih (fun y hy => by cases hy) y v (by omega) hvs (leaf0M bs x v s2).2 _ (by omega)) ?_;refine yZ ?_;refine s_val (v_callD (fun _ => Co_c (sumR 3) 0 [_, _])) ?_;refine Y25 ?_;exact Tri.ret ⟨.inr rfl, ret1 rfl resV_cell (VImp.refl _), zO⟩
     ·skip
      have hr := tt_rest hty (by simpa using h1) (by simpa using h2) (by simpa using h3) (by simpa using h4)
      have hl2 : base1M bs v t s2 = (coM r' 0 [], s2) := by rcases hr with ⟨x, rfl, rfl⟩ | ⟨x, rfl, rfl⟩ <;> rfl
      rw [hleaf, hl2];refine Tri.skip ?_;refine Y15 ?_;refine s_val (v_callD (fun _ => Co_c r' 0 [])) ?_;refine Y12 ?_;exact Tri.ret ⟨.inr rfl, ret1 rfl resV_cell (VImp.refl _), zO⟩
theorem leaf0_c (x : BT) (v : List Ty) (hvl : v.length ≤ 1020) (hvs : ∀ u ∈ v, ysize u ≤ 3) (s : Sd) (l : Int) {k : Int} [h : Bd s l k] (hk : k ≤ 900) :
  HCall Tryz.prog gL 172 [.ptr 951 [] 174, .pu (tyc x.ty), .pu (.sl 0 58 (tysc v))] [] (mkO bs s l) (.pu (tmc 0 (leaf0M bs x v s).1)) (mkO bs (leaf0M bs x v s).2 l) [] :=
 leafN_c bs (.ba x) v hvl hvs s l hk (.inr ⟨x, rfl⟩) fun hn => absurd rfl (hn x)
theorem leaf_c (t : TT) (v : List Ty) (hvl : v.length ≤ 1010) (hvs : ∀ u ∈ v, ysize u ≤ 3) (s : Sd) (l : Int) {k : Int} [h : Bd s l k] (hk : k ≤ 800) :
  HCall Tryz.prog gL 172 [.ptr 951 [] 174, .pu (tyc t.ty), .pu (.sl 0 58 (tysc v))] [] (mkO bs s l) (.pu (tmc 0 (leafM bs t v s).1)) (mkO bs (leafM bs t v s).2 l) [] :=
 leafN_c bs t v (by omega) hvs s l (by omega) (.inl hk) fun _ x w hw hs s k _ hk => leaf0_c bs x w (by omega) hs s l (k := k) (by omega)
end Go.Proofs.YtkcgkignhpepkaaGreatDoor

/- The maker's terms of each type. -/
namespace Go.Proofs.YtkcgkignhpepkaaGreatDoor
open Go Hs
class Lt (l : Int) (n : Nat) : Prop where
 h : l ≤ n
class Ml (m : Mk) : Prop where
 h : ∀ t v a s l, (m.f t v a s l).2.2 ≤ l
instance (m : Mk) (n : Nat) (t : TT) (v : List Ty) (a : List AB) (s : Sd) (l : Int) [hm : Ml m] [h : Lt l n] : Lt (m.f t v a s l).2.2 n := ⟨Int.le_trans (hm.h t v a s l) h.h⟩
def sumsP (a : List AB) : List Pu := a.map fun x => refP x.ref
theorem sums_len (a : List AB) : (sumsP a).length = a.length := by simp [sumsP]
theorem ab_len (x : AB) : x.ref.length = 32 := by cases x <;> rfl
def TermC (bs : List Int) (m : Mk) (n : Nat) : Prop := ∀ (t : TT) (v : List Ty) (a : List AB) (s : Sd) (l k : Int) [Bd s l k] [Lt l n], Vk v n → a.length + n ≤ 40 → k ≤ 0 →
 HCall Tryz.prog gL 111 [.ptr 951 [] 174, .pu (tyc t.ty), .pu (.sl 0 58 (tysc v)), .pu (.sl 0 28 (sumsP a))] [] (mkO bs s l) (.pu (tmc 0 (m.f t v a s l).1)) (mkO bs (m.f t v a s l).2.1 (m.f t v a s l).2.2) []
variable (bs : List Int) [hz : Bz bs] (m : Mk) [hm : Mc m] [hml : Ml m] (n : Nat)
abbrev oneR (v : List Ty) (a : List AB) : List (Nat × Ob) := [(4, .var 172 (.ptr 951 [] 174)), (6, .var 53 (.pu (.sl 0 58 (tysc v)))), (7, .var 54 (.pu (.sl 0 28 (sumsP a))))]
theorem one_c (H : TermC bs m n) (v : List Ty) (a : List AB) (hv : Vk v n) (ha : a.length + n ≤ 40) (t : TT) (s : Sd) (l : Int) {k : Int} [h : Bd s l k] [hl : Lt l n] (hk : k ≤ 0) : HCall Tryz.prog gL 228 [.pu (tyc t.ty), .ptr 4 [] 172, .ptr 6 [] 53, .ptr 7 [] 54] (oneR v a) (mkO bs s l) (.pu (tmc 0 (m.f t v a s l).1)) (mkO bs (m.f t v a s l).2.1 (m.f t v a s l).2.2) [] := by
 refine HCall.of_triD tbl 11 [950, 951, 4, 6, 7] Tryz.func228 rfl rfl rfl fun w0 M ρ0 D0 => ?_
 refine yR ?_;refine s_box SS 31 ?_;refine s_alloc SS 32 ?_;refine e_seqN [31, 32] ?_;refine Y39 ?_;refine yK ?_;refine yK ?_;refine s_call (H t v a s l k hv ha hk) ?_;refine Y12 ?_;exact Tri.ret ⟨.inr rfl, ret1 rfl resV_cell (VImp.refl _), zO⟩
set_option maxHeartbeats 2000000 in
theorem made_c (H : TermC bs m n) (t : TT) (v : List Ty) (a : List AB) (hv : Vk v (n + 1)) (ha : a.length + n ≤ 40) (s : Sd) (l : Int) {k : Int} [h : Bd s l k] [hl : Lt l n] (hk : k ≤ -300) :
  HCall Tryz.prog gL 179 [.ptr 951 [] 174, .pu (tyc t.ty), .pu (.sl 0 58 (tysc v)), .pu (.sl 0 28 (sumsP a))] [] (mkO bs s l) (.pu (tmc 0 (madeM bs m t v a s l).1)) (mkO bs (madeM bs m t v a s l).2.1 (madeM bs m t v a s l).2.2) [] := by
 obtain ⟨k', n', r', ks', hty⟩ : ∃ k n r ks, t.ty = .mk k n r ks := by rcases t.ty with ⟨a, b, c, d⟩; exact ⟨a, b, c, d, rfl⟩
 have hrl := tt_ref hty
 have hvl := hv.len
 have hv0 : Vk v n := hv.less
 have hs1 : (sumR 1).length = 32 := by decide
 have hs2' : (sumR 2).length = 32 := by decide
 have hs3' : (sumR 3).length = 32 := by decide
 have hs4 : (sumR 4).length = 32 := by decide
 have hb6 := less_b bs (lessM bs 9 s).2 (n := 6) (by decide)
 rw [hty]
 refine HCall.of_triD tbl 187 [950, 951] Tryz.func179 rfl rfl rfl fun w0 M ρ0 D0 => ?_
 refine yR ?_;refine s_box SS 4 ?_;refine s_box SS 5 ?_;refine s_box SS 6 ?_;refine s_box SS 7 ?_;refine s_alloc SS 8 ?_;refine e_seqN [4, 5, 6, 7, 8] ?_;refine yR ?_;refine s_val (v_mkFnD SS) ?_;refine Y2 ?_;refine Tri.block ?_;refine Y29 ?_;refine Y2 ?_;refine Tri.cond rfl (fun h0 => ?_) (fun h0 => ?_)
 ·skip
  obtain ⟨x, rfl, rfl, rfl, rfl⟩ := tt_fn hty (by simpa using h0)
  rw [show madeM bs m (.fn x) v a s l = (laM (m.f (.ba x) (v ++ [natY]) [] s l).1, (m.f (.ba x) (v ++ [natY]) [] s l).2) from rfl];refine Y6 ?_;refine Y7 ?_;refine s_val (v_index SS (h0 := by omega) (hp := (rfl : (tysc [natY, x.ty])[1]? = some _))) ?_;refine yL ?_;refine yK ?_;refine Y7 ?_;refine s_val (v_index SS (h0 := by omega) (hp := (rfl : (tysc [natY, x.ty])[0]? = some _))) ?_;refine Y47 ?_;refine s_val (v_callD (fun _ => bound_c v [natY] (by omega) (by simp))) ?_;refine s_call (H (.ba x) (v ++ [natY]) [] s l k (hv.app (by simp) (by simp [natY, ysize, ysizeL])) (by simp; omega) (by omega)) ?_;refine s_val (v_callD (fun _ => La_c _)) ?_;refine Y25 ?_;exact Tri.ret ⟨.inr rfl, ret1 rfl resV_cell (VImp.refl _), zO⟩
 ·skip
  refine Y29 ?_;refine Y2 ?_;refine Tri.cond rfl (fun h1 => ?_) (fun h1 => ?_)
  ·skip
   obtain rfl := tt_nat hty (by simpa using h1)
   refine Y6 ?_;refine Y16 ?_;refine s_call (less_c bs 9 s (by omega)) ?_;refine Y0 ?_;refine Tri.block ?_;refine Y10 ?_;refine Tri.cond rfl (fun h2 => ?_) (fun h2 => ?_)
   ·skip
    have e : madeM bs m (.ba .n) v a s l = (apM (deM (sumR 21)) (m.f (.ba .n) v a (lessM bs 9 s).2 l).1, (m.f (.ba .n) v a (lessM bs 9 s).2 l).2) := by simp only [madeM, if_pos (eq_of_beq h2)]
    rw [e];refine Y38 ?_;refine s_val (v_callD (fun _ => De_c (sumR 21))) ?_;refine yM ?_;refine s_val (v_callD (fun _ => N_c)) ?_;refine s_call (one_c bs m n H v a hv0 ha (.ba .n) (lessM bs 9 s).2 l (by omega)) ?_;refine s_val (v_callD (fun _ => Ap_c _ _)) ?_;refine Y12 ?_;exact Tri.ret ⟨.inr rfl, ret1 rfl resV_cell (VImp.refl _), zO⟩
   ·skip
    have g0 : ¬ (lessM bs 9 s).1 = 0 := by simpa using h2
    refine Y10 ?_;refine Tri.cond rfl (fun h3 => ?_) (fun h3 => ?_)
    ·skip
     have e : madeM bs m (.ba .n) v a s l = (apM (apM (deM (sumR 22)) (m.f (.ba .n) v a (lessM bs 9 s).2 l).1) (m.f (.ba .n) v a (m.f (.ba .n) v a (lessM bs 9 s).2 l).2.1 (m.f (.ba .n) v a (lessM bs 9 s).2 l).2.2).1, (m.f (.ba .n) v a (m.f (.ba .n) v a (lessM bs 9 s).2 l).2.1 (m.f (.ba .n) v a (lessM bs 9 s).2 l).2.2).2) := by simp only [madeM, if_neg g0, if_pos (eq_of_beq h3)]
     rw [e];refine Y38 ?_;refine s_val (v_callD (fun _ => De_c (sumR 22))) ?_;refine yM ?_;refine s_val (v_callD (fun _ => N_c)) ?_;refine s_call (one_c bs m n H v a hv0 ha (.ba .n) (lessM bs 9 s).2 l (by omega)) ?_;refine s_val (v_callD (fun _ => Ap_c _ _)) ?_;refine yM ?_;refine s_val (v_callD (fun _ => N_c)) ?_;refine s_call (one_c bs m n H v a hv0 ha (.ba .n) (m.f (.ba .n) v a (lessM bs 9 s).2 l).2.1 _ (by omega)) ?_;refine s_val (v_callD (fun _ => Ap_c _ _)) ?_;refine Y12 ?_;exact Tri.ret ⟨.inr rfl, ret1 rfl resV_cell (VImp.refl _), zO⟩
    ·skip
     have g1 : ¬ (lessM bs 9 s).1 = 1 := by simpa using h3
     refine Y10 ?_;refine Tri.cond rfl (fun h4 => ?_) (fun h4 => ?_)
     ·skip
      have e : madeM bs m (.ba .n) v a s l = (apM (deM (sumR 23)) (m.f (.li .n) v a (lessM bs 9 s).2 l).1, (m.f (.li .n) v a (lessM bs 9 s).2 l).2) := by simp only [madeM, if_neg g0, if_neg g1, if_pos (eq_of_beq h4)]
      rw [e];refine Y38 ?_;refine s_val (v_callD (fun _ => De_c (sumR 23))) ?_;refine yM ?_;refine yG ?_;refine s_val (v_callD (fun _ => N_c)) ?_;refine yZ ?_;refine s_val (v_callD (fun _ => D_c (sumR 2) [tyc natY])) ?_;refine s_call (one_c bs m n H v a hv0 ha (.li .n) (lessM bs 9 s).2 l (by omega)) ?_;refine s_val (v_callD (fun _ => Ap_c _ _)) ?_;refine Y25 ?_;exact Tri.ret ⟨.inr rfl, ret1 rfl resV_cell (VImp.refl _), zO⟩
     ·skip
      have g2 : ¬ (lessM bs 9 s).1 = 2 := by simpa using h4
      refine Y10 ?_;refine Tri.cond rfl (fun h5 => ?_) (fun h5 => ?_)
      ·skip
       have e : madeM bs m (.ba .n) v a s l = (apM (deM (sumR 24)) (nuM (lessM bs 4 (lessM bs 9 s).2).1), (lessM bs 4 (lessM bs 9 s).2).2, l) := by simp only [madeM, if_neg g0, if_neg g1, if_neg g2, if_pos (eq_of_beq h5)]
       rw [e];refine Y38 ?_;refine s_val (v_callD (fun _ => De_c (sumR 24))) ?_;refine yL ?_;refine Y16 ?_;refine s_call (less_c bs 4 (lessM bs 9 s).2 (by omega)) ?_;refine s_val (v_callD (fun _ => Nu_c _)) ?_;refine s_val (v_callD (fun _ => Ap_c _ _)) ?_;refine Y25 ?_;exact Tri.ret ⟨.inr rfl, ret1 rfl resV_cell (VImp.refl _), zO⟩
      ·skip
       have g3 : ¬ (lessM bs 9 s).1 = 3 := by simpa using h5
       have hb9 := less_b bs s (n := 9) (by decide)
       refine Y10 ?_;refine Tri.cutT ⟨[(4, .ptr 4 [] 172), (5, .ptr 5 [] 58), (6, .ptr 6 [] 53), (7, .ptr 7 [] 54), (8, .ptr 8 [] 32), (9, .fn (.func 228) [] [.ptr 4 [] 172, .ptr 6 [] 53, .ptr 7 [] 54]), (80, bv (decide ((lessM bs 9 s).1 < 7)))], [(5, .var 58 (.pu (tyc (.mk k' n' r' ks')))), (8, .var 32 (.agg 32 [iv .i64 0, iv .i64 0, .pu (refP Z32), .nilc, .nilc]))] ++ oneR v a ++ mkO bs (lessM bs 9 s).2 l⟩ ?_ ?_
       ·skip
        refine tQ ?_;refine Tri.cond rfl (fun h6 => ?_) (fun h6 => ?_)
        ·skip
         have hx6 : ((lessM bs 9 s).1 == 4) = decide ((lessM bs 9 s).1 < 7) := by have := eq_of_beq h6; rw [this]; rfl
         refine Tri.skip ?_;refine le_of ?_ ?_
         ·repeat (first | exact SubE.nil | refine SubE.cons rfl (by first | rfl | (rw [wrap64 (by omega) (by omega)]; rfl) | (exact congrArg bv hx6)) ?_)
         ·repeat (first | exact SubH.nil | refine SubH.cons rfl (by first | rfl | (rw [wrap64 (by omega) (by omega)]; rfl) | (exact congrArg bv hx6)) ?_)
        ·skip
         refine Y10 ?_;refine Tri.cond rfl (fun h7 => ?_) (fun h7 => ?_)
         ·skip
          have hx6 : ((lessM bs 9 s).1 == 5) = decide ((lessM bs 9 s).1 < 7) := by have := eq_of_beq h7; rw [this]; rfl
          refine Tri.skip ?_;refine le_of ?_ ?_
          ·repeat (first | exact SubE.nil | refine SubE.cons rfl (by first | rfl | (rw [wrap64 (by omega) (by omega)]; rfl) | (exact congrArg bv hx6)) ?_)
          ·repeat (first | exact SubH.nil | refine SubH.cons rfl (by first | rfl | (rw [wrap64 (by omega) (by omega)]; rfl) | (exact congrArg bv hx6)) ?_)
         ·skip
          have hx6 : ((lessM bs 9 s).1 == 6) = decide ((lessM bs 9 s).1 < 7) := by
           have g4 : ¬ (lessM bs 9 s).1 = 4 := by simpa using h6
           have g5 : ¬ (lessM bs 9 s).1 = 5 := by simpa using h7
           rw [Bool.eq_iff_iff, beq_iff_eq, decide_eq_true_iff]
           omega
          refine Y4 ?_;refine Y13 ?_;refine le_of ?_ ?_
          ·repeat (first | exact SubE.nil | refine SubE.cons rfl (by first | rfl | (rw [wrap64 (by omega) (by omega)]; rfl) | (exact congrArg bv hx6)) ?_)
          ·repeat (first | exact SubH.nil | refine SubH.cons rfl (by first | rfl | (rw [wrap64 (by omega) (by omega)]; rfl) | (exact congrArg bv hx6)) ?_)
       ·skip
        refine tQ ?_;refine Tri.cond rfl (fun h8 => ?_) (fun h8 => ?_)
        ·skip
         have e : madeM bs m (.ba .n) v a s l = (prM (fromM bs 1 5 (lessM bs 9 s).2).1 (m.f (.ba .n) v a (fromM bs 1 5 (lessM bs 9 s).2).2 l).1 (m.f (.ba .n) v a (m.f (.ba .n) v a (fromM bs 1 5 (lessM bs 9 s).2).2 l).2.1 (m.f (.ba .n) v a (fromM bs 1 5 (lessM bs 9 s).2).2 l).2.2).1, (m.f (.ba .n) v a (m.f (.ba .n) v a (fromM bs 1 5 (lessM bs 9 s).2).2 l).2.1 (m.f (.ba .n) v a (fromM bs 1 5 (lessM bs 9 s).2).2 l).2.2).2) := by simp only [madeM, if_neg g0, if_neg g1, if_neg g2, if_neg g3, if_pos (of_decide_eq_true h8)]
         rw [e];refine Y6 ?_;refine Y16 ?_;refine s_call (from_c bs 1 5 (lessM bs 9 s).2 (by omega)) ?_;refine yM ?_;refine s_val (v_callD (fun _ => N_c)) ?_;refine s_call (one_c bs m n H v a hv0 ha (.ba .n) (fromM bs 1 5 (lessM bs 9 s).2).2 l (by omega)) ?_;refine yM ?_;refine s_val (v_callD (fun _ => N_c)) ?_;refine s_call (one_c bs m n H v a hv0 ha (.ba .n) (m.f (.ba .n) v a (fromM bs 1 5 (lessM bs 9 s).2).2 l).2.1 _ (by omega)) ?_;refine s_val (v_callD (fun _ => Pr_c _ _ _)) ?_;refine Y12 ?_;exact Tri.ret ⟨.inr rfl, ret1 rfl resV_cell (VImp.refl _), zO⟩
        ·skip
         have e : madeM bs m (.ba .n) v a s l = (nuM ([0, 1, 2, 3, 7, 1073741824].getD (lessM bs 6 (lessM bs 9 s).2).1.toNat 0), (lessM bs 6 (lessM bs 9 s).2).2, l) := by simp only [madeM, if_neg g0, if_neg g1, if_neg g2, if_neg g3, if_neg (of_decide_eq_false h8)]
         rw [e]
         have hix : ([0, 1, 2, 3, 7, 1073741824].map fun i : Int => (Pu.leaf (.int .i64 i)))[(lessM bs 6 (lessM bs 9 s).2).1.toNat]? = some (.leaf (.int .i64 ([0, 1, 2, 3, 7, 1073741824].getD (lessM bs 6 (lessM bs 9 s).2).1.toNat 0))) := by
          generalize (lessM bs 6 (lessM bs 9 s).2).1 = z at hb6
          obtain ⟨j, rfl⟩ := Int.eq_ofNat_of_zero_le hb6.1
          have hj : j < 6 := by omega
          rcases j with _ | _ | _ | _ | _ | _ | j <;> first | rfl | omega
         refine Tri.skip ?_;refine yR ?_;refine yZ ?_;refine yL ?_;refine Y16 ?_;refine s_call (less_c bs 6 (lessM bs 9 s).2 (by omega)) ?_;refine s_val (v_indexx SS (h0 := hb6.1) (hp := hix)) ?_;refine yL ?_;refine s_val (v_callD (fun _ => Nu_c _)) ?_;refine Y12 ?_;exact Tri.ret ⟨.inr rfl, ret1 rfl resV_cell (VImp.refl _), zO⟩
  ·skip
   refine Y15 ?_;refine yG ?_;refine s_val (v_bin SS (h := bin_eqS (hrl.trans hs1.symm))) ?_;refine Y2 ?_;refine Tri.cond rfl (fun h9 => ?_) (fun h9 => ?_)
   ·skip
    obtain rfl := tt_bool hty (by simpa using h9)
    rw [show madeM bs m (.ba .b) v a s l = (coM (sumR 1) (lessM bs 2 s).1 [], (lessM bs 2 s).2, l) from rfl];refine Y38 ?_;refine yL ?_;refine Y16 ?_;refine s_call (less_c bs 2 s (by omega)) ?_;refine s_val (v_callD (fun _ => Co_c (sumR 1) _ [])) ?_;refine Y25 ?_;exact Tri.ret ⟨.inr rfl, ret1 rfl resV_cell (VImp.refl _), zO⟩
   ·skip
    have g1 : ¬ k' = 3 := by simpa using h0
    have g2 : ¬ k' = 2 := by simpa using h1
    have g3 : ¬ r' = sumR 1 := by simpa using h9
    refine Y15 ?_;refine yG ?_;refine s_val (v_bin SS (h := bin_eqS (hrl.trans hs2'.symm))) ?_;refine Y59 ?_;refine s_gg zG (v_nilCheck SS) ?_;refine Y8 ?_;refine s_callG zG (f := 115) (args := [.ptr 950 [] 171, iv .i64 3]) (HR := []) (H := stO bs s) (H' := stO bs (if r' = sumR 2 then (seldomM bs 3 s).2 else s)) (v := bv (seldomM bs 3 s).1) (fun e => ?_) (fun e => ?_) ?_
    ·have e' : r' = sumR 2 := by simpa using e
     rw [if_pos e'];exact seldom_c bs 3 s (by omega)
    ·have e' : ¬ r' = sumR 2 := by simpa using e
     exact .cons rfl (by simp [e']) .nil
    refine xQ ?_;refine yN ?_;refine Y13 ?_
    have hb2 : Bd (if r' = sumR 2 then (seldomM bs 3 s).2 else s) l (k + 1) := by
     split
     ·exact inferInstance
     ·exact Bd.mono h (by omega)
    generalize hs2 : (if r' = sumR 2 then (seldomM bs 3 s).2 else s) = s2 at hb2 ⊢
    refine tQ ?_;refine Tri.cond rfl (fun h10 => ?_) (fun h10 => ?_)
    ·skip
     have hq : r' = sumR 2 ∧ (seldomM bs 3 s).1 = false := by simpa using h10
     rw [if_pos hq.1] at hs2
     subst hs2
     obtain ⟨hq1, hq2⟩ := hq
     subst hq1
     obtain ⟨x, rfl, rfl, rfl, rfl⟩ := tt_list hty rfl
     have e : madeM bs m (.li x) v a s l = (coM (sumR 2) 1 [(m.f (.ba x) v a (seldomM bs 3 s).2 l).1, (m.f (.li x) v a (m.f (.ba x) v a (seldomM bs 3 s).2 l).2.1 (m.f (.ba x) v a (seldomM bs 3 s).2 l).2.2).1], (m.f (.li x) v a (m.f (.ba x) v a (seldomM bs 3 s).2 l).2.1 (m.f (.ba x) v a (seldomM bs 3 s).2 l).2.2).2) := by simp only [madeM, if_pos hq2]
     rw [e];refine Y38 ?_;refine yM ?_;refine Y7 ?_;refine s_val (v_index SS (h0 := by omega) (hp := (rfl : (tysc [x.ty])[0]? = some _))) ?_;refine yL ?_;refine s_call (one_c bs m n H v a hv0 ha (.ba x) (seldomM bs 3 s).2 l (by omega)) ?_;refine Y28 ?_;refine s_call (one_c bs m n H v a hv0 ha (.li x) (m.f (.ba x) v a (seldomM bs 3 s).2 l).2.1 _ (by omega)) ?_;refine yZ ?_;refine s_val (v_callD (fun _ => Co_c (sumR 2) 1 [_, _])) ?_;refine Y25 ?_;exact Tri.ret ⟨.inr rfl, ret1 rfl resV_cell (VImp.refl _), zO⟩
    ·skip
     have hq2 : r' = sumR 2 → (seldomM bs 3 s).1 = true := fun e => by simpa [e] using h10
     refine Y15 ?_;refine yG ?_;refine s_val (v_bin SS (h := bin_eqS (hrl.trans hs4.symm))) ?_;refine Y59 ?_;refine s_gg zG (v_nilCheck SS) ?_;refine Y8 ?_;refine s_callG zG (f := 115) (args := [.ptr 950 [] 171, iv .i64 3]) (HR := []) (H := stO bs s2) (H' := stO bs (if r' = sumR 4 then (seldomM bs 3 s2).2 else s2)) (v := bv (seldomM bs 3 s2).1) (fun e => ?_) (fun e => ?_) ?_
     ·have e' : r' = sumR 4 := by simpa using e
      rw [if_pos e'];exact seldom_c bs 3 s2 (by omega)
     ·have e' : ¬ r' = sumR 4 := by simpa using e
      exact .cons rfl (by simp [e']) .nil
     refine xQ ?_;refine yN ?_;refine Y13 ?_
     have hb3 : Bd (if r' = sumR 4 then (seldomM bs 3 s2).2 else s2) l (k + 2) := by
      split
      ·exact Bd.mono (inferInstance : Bd (seldomM bs 3 s2).2 l (k + 1 + 1)) (by omega)
      ·exact Bd.mono hb2 (by omega)
     generalize hs3 : (if r' = sumR 4 then (seldomM bs 3 s2).2 else s2) = s3 at hb3 ⊢
     refine tQ ?_;refine Tri.cond rfl (fun h11 => ?_) (fun h11 => ?_)
     ·skip
      have hq : r' = sumR 4 ∧ (seldomM bs 3 s2).1 = false := by simpa using h11
      rw [if_pos hq.1] at hs3
      subst hs3
      rw [if_neg (by rw [hq.1]; decide)] at hs2
      subst hs2
      obtain ⟨x, rfl, rfl, rfl, rfl⟩ := tt_opt hty hq.1
      have e : madeM bs m (.op x) v a s l = (coM (sumR 4) 1 [(m.f (.ba x) v a (seldomM bs 3 s).2 l).1], (m.f (.ba x) v a (seldomM bs 3 s).2 l).2) := by simp only [madeM, if_pos hq.2]
      rw [e];refine Y38 ?_;refine yM ?_;refine Y7 ?_;refine s_val (v_index SS (h0 := by omega) (hp := (rfl : (tysc [x.ty])[0]? = some _))) ?_;refine yL ?_;refine s_call (one_c bs m n H v a hv0 ha (.ba x) (seldomM bs 3 s).2 l (by omega)) ?_;refine yZ ?_;refine s_val (v_callD (fun _ => Co_c (sumR 4) 1 [_])) ?_;refine Y25 ?_;exact Tri.ret ⟨.inr rfl, ret1 rfl resV_cell (VImp.refl _), zO⟩
     ·skip
      have hq4 : r' = sumR 4 → (seldomM bs 3 s2).1 = true := fun e => by simpa [e] using h11
      refine Y15 ?_;refine yG ?_;refine s_val (v_bin SS (h := bin_eqS (hrl.trans hs3'.symm))) ?_;refine Y2 ?_;refine Tri.cond rfl (fun h12 => ?_) (fun h12 => ?_)
      ·skip
       have hq : r' = sumR 3 := by simpa using h12
       rw [if_neg (by rw [hq]; decide)] at hs3
       subst hs3
       rw [if_neg (by rw [hq]; decide)] at hs2
       subst hs2
       obtain ⟨x, y, rfl, rfl, rfl, rfl⟩ := tt_pair hty hq
       rw [show madeM bs m (.pa x y) v a s l = (coM (sumR 3) 0 [(m.f (.ba x) v a s l).1, (m.f (.ba y) v a (m.f (.ba x) v a s l).2.1 (m.f (.ba x) v a s l).2.2).1], (m.f (.ba y) v a (m.f (.ba x) v a s l).2.1 (m.f (.ba x) v a s l).2.2).2) from rfl];refine Y38 ?_;refine yM ?_;refine Y7 ?_;refine s_val (v_index SS (h0 := by omega) (hp := (rfl : (tysc [x.ty, y.ty])[0]? = some _))) ?_;refine yL ?_;refine s_call (one_c bs m n H v a hv0 ha (.ba x) s l (by omega)) ?_;refine yM ?_;refine Y7 ?_;refine s_val (v_index SS (h0 := by omega) (hp := (rfl : (tysc [x.ty, y.ty])[1]? = some _))) ?_;refine yL ?_;refine s_call (one_c bs m n H v a hv0 ha (.ba y) (m.f (.ba x) v a s l).2.1 _ (by omega)) ?_;refine yZ ?_;refine s_val (v_callD (fun _ => Co_c (sumR 3) 0 [_, _])) ?_;refine Y25 ?_;exact Tri.ret ⟨.inr rfl, ret1 rfl resV_cell (VImp.refl _), zO⟩
      ·skip
       have e : madeM bs m t v a s l = (coM r' 0 [], s3, l) := by
        rcases tt_rest hty g1 g2 g3 (by simpa using h12) with ⟨x, rfl, hr⟩ | ⟨x, rfl, hr⟩
        ·rw [if_neg (by rw [hr]; decide)] at hs3
         rw [if_pos hr] at hs2
         have := hq2 hr
         simp only [madeM, this, ← hs3, ← hs2, hr]
         rfl
        ·rw [if_pos hr] at hs3
         rw [if_neg (by rw [hr]; decide)] at hs2
         have := hq4 hr
         rw [← hs2] at this hs3
         simp only [madeM, this, ← hs3, hr]
         rfl
       rw [e];refine Tri.skip ?_;refine Y15 ?_;refine s_val (v_callD (fun _ => Co_c r' 0 [])) ?_;refine Y12 ?_;exact Tri.ret ⟨.inr rfl, ret1 rfl resV_cell (VImp.refl _), zO⟩
end Go.Proofs.YtkcgkignhpepkaaGreatDoor

/- The maker's questions and matches. -/
namespace Go.Proofs.YtkcgkignhpepkaaGreatDoor
open Go Hs
class Dn (x l : Int) : Prop where
 h : x ≤ l
instance dn_refl (l : Int) : Dn l l := ⟨Int.le_refl _⟩
instance (m : Mk) [hm : Ml m] (t : TT) (v : List Ty) (a : List AB) (s : Sd) (x l : Int) [h : Dn x l] : Dn (m.f t v a s x).2.2 l := ⟨Int.le_trans (hm.h t v a s x) h.h⟩
section
variable (bs : List Int) (m : Mk) [hm : Ml m]
instance (t : TT) (v : List Ty) (a : List AB) (s : Sd) (x l : Int) [h : Dn x l] : Dn (madeM bs m t v a s x).2.2 l := by
 cases t with
 | ba y =>
  cases y <;> simp only [madeM] <;> repeat' split
  all_goals infer_instance
 | li y => simp only [madeM]; split <;> infer_instance
 | op y => simp only [madeM]; split <;> infer_instance
 | pa y z => simp only [madeM]; infer_instance
 | fn y => simp only [madeM]; infer_instance
instance (t : TT) (v : List Ty) (a : List AB) (s : Sd) (x l : Int) [h : Dn x l] : Dn (askMk bs m t v a s x).2.2 l := by
 simp only [askMk]
 repeat' split
 all_goals infer_instance
instance (t : TT) (v : List Ty) (a : List AB) (s : Sd) (x l : Int) [h : Dn x l] : Dn (matchMk bs m t v a s x).2.2 l := by
 simp only [matchMk]
 repeat' split
 all_goals infer_instance
instance (t : TT) (v : List Ty) (a : List AB) (b : BT) (s : Sd) (x l : Int) [h : Dn x l] : Dn (clauseM bs m t v a b s x).2.2 l := by
 simp only [clauseM]
 repeat' split
 all_goals infer_instance
instance clauses_dn (t : TT) (v : List Ty) (a : List AB) (b : BT) (s : Sd) (x l : Int) [h : Dn x l] : ∀ i, Dn (clausesM bs m t v a b s x i).2.2 l
 | 0 => h
 | i + 1 => by
  have := clauses_dn t v a b s x l i
  simp only [clausesM]
  infer_instance
instance (t : TT) (v : List Ty) (a : List AB) (s : Sd) (x l : Int) [h : Dn x l] : Dn (handleMk bs m t v a s x).2.2 l := by
 simp only [handleMk]
 split
 ·infer_instance
 ·exact clauses_dn bs m t v a _ _ _ l _
instance (t : TT) (v : List Ty) (a : List AB) (s : Sd) (x l : Int) [h : Dn x l] : Dn (nodeM bs m t v a s x).2.2 l := by
 simp only [nodeM]
 repeat' split
 all_goals infer_instance
end
instance term_ml (bs : List Int) : ∀ n : Nat, Ml (termMk bs n)
 | 0 => ⟨fun t v a s l => by simp only [termMk]; omega⟩
 | n + 1 => ⟨fun t v a s l => by
  have ih := term_ml bs n
  simp only [termMk]
  split
  ·show l - 1 ≤ l
   omega
  ·have := (inferInstance : Dn (nodeM bs (termMk bs n) t v a s (l - 1)).2.2 (l - 1)).h
   show (nodeM bs (termMk bs n) t v a s (l - 1)).2.2 ≤ l
   omega⟩
theorem Lt.dn {x l : Int} {n : Nat} (h : Lt l n) (d : Dn x l) : Lt x n := ⟨Int.le_trans d.h h.h⟩
variable (bs : List Int) [hz : Bz bs] (m : Mk) [hm : Mc m] [hml : Ml m] (n : Nat)
theorem ask_cond {t : TT} {k' n' : Int} {r' : List Int} {ks' : List Ty} (hty : t.ty = .mk k' n' r' ks') (c : AB) :
  (((sameTy (.mk k' n' r' ks') natY == (c.ref == sumR 12)) || ((k' != 2) && !(c.ref == sumR 12))) || ((c.ref == sumR 12) && !(sameTy (.mk k' n' r' ks') (.mk 4 0 (sumR 1) [])))) = !decide ((t = .ba .n ∧ c ≠ .fl) ∨ (t = .ba .b ∧ c = .fl)) := by
 rcases t with (_ | _) | (_ | _) | (_ | _) | ⟨_ | _, _ | _⟩ | (_ | _) <;> simp only [TT.ty, BT.ty, natY, Ty.mk.injEq] at hty <;> obtain ⟨rfl, rfl, rfl, rfl⟩ := hty <;> cases c <;> rfl
theorem ab_st (c : AB) : (c.ref == sumR 11) = decide (c = .st) := by cases c <;> rfl
theorem sums_get (a : List AB) {i : Nat} (h : i < a.length) : (sumsP a)[i]? = some (refP (a.getD i .ab).ref) := by
 simp [sumsP, List.getD_eq_getElem?_getD, h]
set_option maxHeartbeats 1000000 in
theorem ask_c (H : TermC bs m n) (t : TT) (v : List Ty) (a : List AB) (hv : Vk v n) (ha : a.length + n ≤ 40) (s : Sd) (l : Int) {k : Int} [h : Bd s l k] [hl : Lt l n] (hk : k ≤ -300) :
  HCall Tryz.prog gL 177 [.ptr 951 [] 174, .pu (tyc t.ty), .pu (.sl 0 58 (tysc v)), .pu (.sl 0 28 (sumsP a))] [] (mkO bs s l) (.tup [.pu (tmc 0 (askMk bs m t v a s l).1.1), bv (askMk bs m t v a s l).1.2]) (mkO bs (askMk bs m t v a s l).2.1 (askMk bs m t v a s l).2.2) [] := by
 obtain ⟨k', n', r', ks', hty⟩ : ∃ k n r ks, t.ty = .mk k n r ks := by rcases t.ty with ⟨a, b, c, d⟩; exact ⟨a, b, c, d, rfl⟩
 have hsm := tt_small t
 rw [hty] at hsm ⊢
 have hal := sums_len a
 refine HCall.of_triD tbl 72 [950, 951] Tryz.func177 rfl rfl rfl fun w0 M ρ0 D0 => ?_
 refine yR ?_;refine s_box SS 5 ?_;refine s_alloc SS 8 ?_;refine yB ?_;refine e_seqN [5, 8] ?_;refine Y1 ?_;refine yC ?_;refine Y55 ?_;refine Tri.cond rfl (fun h0 => ?_) (fun h0 => ?_)
 ·skip
  have g0 : a.length = 0 := by have := eq_of_beq h0; omega
  have e : askMk bs m t v a s l = ((zeroM, false), s, l) := by unfold askMk; rw [if_pos g0]
  rw [e];refine yR ?_;refine yT ?_;refine yS ?_;refine Y43 ?_;exact Tri.ret ⟨.inr rfl, ret2 rfl resV_cell (ToPu.imp (by repeat constructor)) resV_tmp (VImp.refl _), zO⟩
 ·skip
  have g0 : ¬ a.length = 0 := by intro e; rw [hal, e] at h0; simp at h0
  have hb := less_b bs s (n := (a.length : Int)) (by omega)
  have hget := sums_get a (i := (lessM bs a.length s).1.toNat) (by omega)
  obtain ⟨c, hc⟩ : ∃ c, c = a.getD (lessM bs a.length s).1.toNat .ab := ⟨_, rfl⟩
  rw [← hc] at hget
  have hcl : c.ref.length = (sumR 12).length := by rw [ab_len]; rfl
  have hcl1 : c.ref.length = (sumR 11).length := by rw [ab_len]; rfl
  refine Tri.skip ?_;refine Y32 ?_;refine Y16 ?_;refine yM ?_;refine yC ?_;rw [hal];refine s_call (less_c bs _ s (by omega)) ?_;refine s_val (v_index SS (h0 := hb.1) (hp := hget)) ?_;refine yL ?_;refine s_alloc SS 10 ?_;refine yS ?_;refine yB ?_;refine e_seqN [10] ?_;refine Y6 ?_;refine s_val (v_callD (fun _ => N_c)) ?_;refine s_val (v_callD (fun _ => sameY_c _ (.mk k' n' r' ks') natY (Nat.le_refl _) (by omega) (by decide))) ?_;refine yL ?_;refine yG ?_;refine s_val (v_bin SS (h := bin_eqS hcl)) ?_;refine s_val (v_bin SS (h := eqBool _ _)) ?_;refine Y11 ?_;refine xI ?_;refine xM ?_;refine xL ?_;refine s_gg zG (v_loadp SS) ?_;refine s_gg zG (v_bin SS (h := bin_neS hcl)) ?_;refine xN ?_;refine yO ?_;refine Y59 ?_;refine s_gg zG (v_loadp SS) ?_;refine s_gg zG (v_bin SS (h := bin_eqS hcl)) ?_;refine xM ?_;refine xL ?_
  refine s_gg zG (v_loadp SS) ?_;refine s_gg zG (v_callD (fun _ => D_c (sumR 1) [])) ?_;refine s_gg zG (v_callD (fun _ => sameY_c _ (.mk k' n' r' ks') (.mk 4 0 (sumR 1) []) (Nat.le_refl _) (by omega) (by decide))) ?_;refine xQ ?_;refine xN ?_;refine yO ?_;refine e_draw ?_
  have hcd := ask_cond hty c
  refine tQ ?_;refine Tri.cond rfl (fun h1 => ?_) (fun h1 => ?_)
  ·skip
   have g1 : ¬ ((t = .ba .n ∧ c ≠ .fl) ∨ (t = .ba .b ∧ c = .fl)) := by
    intro hx
    have := hcd.symm.trans h1
    rw [decide_eq_true hx] at this
    cases this
   have e : askMk bs m t v a s l = ((zeroM, false), (lessM bs a.length s).2, l) := by
    unfold askMk
    rw [if_neg g0]
    simp only [← hc]
    rw [if_neg g1]
   rw [e];refine yR ?_;refine yT ?_;refine yS ?_;refine Y43 ?_;exact Tri.ret ⟨.inr rfl, ret2 rfl resV_cell (ToPu.imp (by repeat constructor)) resV_tmp (VImp.refl _), zO⟩
  ·skip
   have g1 : ((t = .ba .n ∧ c ≠ .fl) ∨ (t = .ba .b ∧ c = .fl)) := Decidable.byContradiction fun hx => by
    have := hcd.symm.trans h1
    rw [decide_eq_false hx] at this
    cases this
   refine Tri.skip ?_;refine Y6 ?_;refine yG ?_;refine s_val (v_bin SS (h := bin_eqS hcl1)) ?_;refine Y0 ?_;refine Tri.cond rfl (fun h2 => ?_) (fun h2 => ?_)
   ·skip
    have g2 : c = .st := by have := (ab_st c).symm.trans h2; simpa using this
    have e : askMk bs m t v a s l = ((doT c.ref (lessM bs 2 (lessM bs a.length s).2).1 (m.f (.ba .n) v a (lessM bs 2 (lessM bs a.length s).2).2 l).1, true), (m.f (.ba .n) v a (lessM bs 2 (lessM bs a.length s).2).2 l).2) := by
     unfold askMk
     rw [if_neg g0]
     simp only [← hc]
     rw [if_pos g1, if_pos g2]
    rw [e]
    have hsp : Bd (lessM bs 2 (lessM bs a.length s).2).2 l (k + 2) := Bd.mono (inferInstance : Bd (lessM bs 2 (lessM bs a.length s).2).2 l (k + 1 + 1)) (by omega)
    refine Y53 ?_;refine s_call (less_c bs 2 (lessM bs a.length s).2 (by omega)) ?_;refine Y13 ?_
    obtain ⟨q, hq⟩ : ∃ q, q = (lessM bs 2 (lessM bs a.length s).2).2 := ⟨_, rfl⟩
    rw [← hq] at hsp ⊢
    refine Y6 ?_;refine Y22 ?_;refine s_val (v_callD (fun _ => N_c)) ?_;refine Y22 ?_;refine s_call (H (.ba .n) v a q l (k + 2) hv ha (by omega)) ?_;refine s_val (v_callD (fun _ => Ask_c c.ref _ _)) ?_;refine yS ?_;refine yB ?_;refine Y18 ?_;exact Tri.ret ⟨.inr rfl, ret2 rfl resV_cell (VImp.refl _) resV_tmp (VImp.refl _), zO⟩
   ·skip
    have g2 : ¬ c = .st := by have := (ab_st c).symm.trans h2; exact of_decide_eq_false this
    have e : askMk bs m t v a s l = ((doT c.ref 0 (m.f (.ba .n) v a (lessM bs a.length s).2 l).1, true), (m.f (.ba .n) v a (lessM bs a.length s).2 l).2) := by
     unfold askMk
     rw [if_neg g0]
     simp only [← hc]
     rw [if_pos g1, if_neg g2]
    rw [e]
    have hsp : Bd (lessM bs a.length s).2 l (k + 2) := Bd.mono (inferInstance : Bd (lessM bs a.length s).2 l (k + 1)) (by omega)
    obtain ⟨q, hq⟩ : ∃ q, q = (lessM bs a.length s).2 := ⟨_, rfl⟩
    rw [← hq] at hsp ⊢
    refine Tri.skip ?_;refine Y6 ?_;refine Y22 ?_;refine s_val (v_callD (fun _ => N_c)) ?_;refine Y22 ?_;refine s_call (H (.ba .n) v a q l (k + 2) hv ha (by omega)) ?_;refine s_val (v_callD (fun _ => Ask_c c.ref _ _)) ?_;refine yS ?_;refine yB ?_;refine Y18 ?_;exact Tri.ret ⟨.inr rfl, ret2 rfl resV_cell (VImp.refl _) resV_tmp (VImp.refl _), zO⟩
set_option maxHeartbeats 2000000 in
theorem match_c (H : TermC bs m n) (t : TT) (v : List Ty) (a : List AB) (hv : Vk v (n + 1)) (ha : a.length + n ≤ 40) (s : Sd) (l : Int) {k : Int} [h : Bd s l k] [hl : Lt l n] (hk : k ≤ -500) :
  HCall Tryz.prog gL 176 [.ptr 951 [] 174, .pu (tyc t.ty), .pu (.sl 0 58 (tysc v)), .pu (.sl 0 28 (sumsP a))] [] (mkO bs s l) (.pu (tmc 0 (matchMk bs m t v a s l).1)) (mkO bs (matchMk bs m t v a s l).2.1 (matchMk bs m t v a s l).2.2) [] := by
 have hvl := hv.len
 have hv0 : Vk v n := hv.less
 have hs1 (x : BT) : ysize x.ty ≤ 3 := bt_small x
 have hs2 (x : BT) : ysize (TT.li x).ty ≤ 3 := tt_small _
 have hu1 (x : BT) : Vk (v ++ [x.ty]) n := hv.app (by simp) (by simp [hs1])
 have hu2 : Vk (v ++ [natY]) n := hu1 .n
 have hu3 (x : BT) : Vk (v ++ [x.ty, natY]) n := hv.app (by simp) (by simp [hs1]; exact hs1 .n)
 have hu4 (x : BT) : Vk (v ++ [x.ty, (TT.li x).ty]) n := hv.app (by simp) (by simp [hs1, hs2])
 obtain ⟨u, hu⟩ : ∃ u, u = plain0M bs s := ⟨_, rfl⟩
 obtain ⟨q, hq⟩ : ∃ q, q = lessM bs 6 (plain0M bs s).2 := ⟨_, rfl⟩
 have hbu : Bd u.2 l (k + 1) := hu ▸ inferInstance
 have hbq : Bd q.2 l (k + 2) := hq ▸ Bd.mono (inferInstance : Bd (lessM bs 6 (plain0M bs s).2).2 l (k + 1 + 1)) (by omega)
 refine HCall.of_triD tbl 254 [950, 951] Tryz.func176 rfl rfl rfl fun w0 M ρ0 D0 => ?_
 simp only [matchMk]
 refine yR ?_;refine s_box SS 5 ?_;refine s_alloc SS 8 ?_;refine e_seqN [5, 8] ?_;refine Y53 ?_;refine s_call (plain0_c bs s (by omega)) ?_;refine s_alloc SS 9 ?_;refine yS ?_;refine e_seqN [9] ?_;refine Y53 ?_;refine s_call (less_c bs 6 (plain0M bs s).2 (by omega)) ?_;refine e_seq ?_;rw [← hq, ← hu];refine tQ ?_;refine Tri.block ?_;refine Y10 ?_;refine Tri.cond rfl (fun h0 => ?_) (fun h0 => ?_)
 ·skip
  rw [if_pos (eq_of_beq h0)];refine Y1 ?_;refine s_val (v_callD (fun _ => N_c)) ?_;refine Y22 ?_;refine s_call (H (.ba .n) v a q.2 l _ hv0 ha (by omega)) ?_;refine s_alloc SS 10 ?_;refine yS ?_;refine e_seqN [10] ?_;refine Y6 ?_;refine yM ?_;refine Y16 ?_;refine s_call (less_c bs 3 (m.f (.ba .n) v a q.2 l).2.1 (by omega)) ?_;refine s_val (v_callD (fun _ => PN_c _)) ?_;refine Y28 ?_;refine Y22 ?_;refine s_call (H t v a (lessM bs 3 (m.f (.ba .n) v a q.2 l).2.1).2 _ _ hv0 ha (by omega)) ?_;refine s_val (v_callD (fun _ => Ca_c (pnM _) _)) ?_;refine s_val (v_callD (fun _ => Any_c)) ?_;refine Y28 ?_;refine yM ?_;refine s_val (v_callD (fun _ => N_c)) ?_;refine yZ ?_;refine s_val (v_callD (fun _ => bound_c v [natY] (by omega) (by simp))) ?_;refine yM ?_
  refine s_call (H t (v ++ [natY]) a (m.f t v a (lessM bs 3 (m.f (.ba .n) v a q.2 l).2.1).2 (m.f (.ba .n) v a q.2 l).2.2).2.1 _ _ hu2 ha (by omega)) ?_;refine s_val (v_callD (fun _ => Ca_c anyM _)) ?_;refine yZ ?_;refine s_val (v_callD (fun _ => Ma_c _ [.mk (pnM _) _, .mk anyM _])) ?_;refine Y25 ?_;exact Tri.ret ⟨.inr rfl, ret1 rfl resV_cell (VImp.refl _), zO⟩
 ·skip
  rw [if_neg (fun e => by rw [e] at h0; simp at h0)];refine Y10 ?_;refine Tri.cond rfl (fun h1 => ?_) (fun h1 => ?_)
  ·skip
   rw [if_pos (eq_of_beq h1)];refine Y1 ?_;refine yG ?_;refine s_val (v_callD (fun _ => D_c (sumR 1) [])) ?_;refine Y22 ?_;refine s_call (H (.ba .b) v a q.2 l _ hv0 ha (by omega)) ?_;refine s_alloc SS 11 ?_;refine yS ?_;refine e_seqN [11] ?_;refine Y6 ?_;refine yG ?_;refine yM ?_;refine Y16 ?_;refine s_call (less_c bs 2 (m.f (.ba .b) v a q.2 l).2.1 (by omega)) ?_;refine s_val (v_callD (fun _ => PC_c (sumR 1) _ [])) ?_;refine Y28 ?_;refine Y22 ?_;refine s_call (H t v a (lessM bs 2 (m.f (.ba .b) v a q.2 l).2.1).2 _ _ hv0 ha (by omega)) ?_;refine s_val (v_callD (fun _ => Ca_c (pcM (sumR 1) _ []) _)) ?_;refine s_val (v_callD (fun _ => Any_c)) ?_;refine Y28 ?_;refine yM ?_;refine yG ?_;refine s_val (v_callD (fun _ => D_c (sumR 1) [])) ?_;refine yZ ?_;refine s_val (v_callD (fun _ => bound_c v [BT.b.ty] (by omega) (by simp))) ?_
   refine yM ?_;refine s_call (H t (v ++ [BT.b.ty]) a (m.f t v a (lessM bs 2 (m.f (.ba .b) v a q.2 l).2.1).2 (m.f (.ba .b) v a q.2 l).2.2).2.1 _ _ (hu1 .b) ha (by omega)) ?_;refine s_val (v_callD (fun _ => Ca_c anyM _)) ?_;refine yZ ?_;refine s_val (v_callD (fun _ => Ma_c _ [.mk (pcM (sumR 1) _ []) _, .mk anyM _])) ?_;refine Y25 ?_;exact Tri.ret ⟨.inr rfl, ret1 rfl resV_cell (VImp.refl _), zO⟩
  ·skip
   rw [if_neg (fun e => by rw [e] at h1; simp at h1)];refine Y10 ?_;refine Tri.cond rfl (fun h2 => ?_) (fun h2 => ?_)
   ·skip
    rw [if_pos (eq_of_beq h2)];refine Y1 ?_;refine yG ?_;refine Y47 ?_;refine s_val (v_callD (fun _ => D_c (sumR 2) [_])) ?_;refine Y22 ?_;refine s_call (H (.li u.1) v a q.2 l _ hv0 ha (by omega)) ?_;refine s_alloc SS 12 ?_;refine yS ?_;refine e_seqN [12] ?_;refine Y6 ?_;refine yG ?_;refine s_val (v_callD (fun _ => PC_c (sumR 2) 0 [])) ?_;refine Y28 ?_;refine Y22 ?_;refine s_call (H t v a (m.f (.li u.1) v a q.2 l).2.1 _ _ hv0 ha (by omega)) ?_;refine s_val (v_callD (fun _ => Ca_c (pcM (sumR 2) 0 []) _)) ?_;refine yG ?_;refine s_val (v_callD (fun _ => Any_c)) ?_;refine yG ?_;refine s_val (v_callD (fun _ => PC_c (sumR 2) 0 [])) ?_;refine yZ ?_;refine s_val (v_callD (fun _ => PC_c (sumR 2) 1 [anyM, pcM (sumR 2) 0 []])) ?_;refine Y28 ?_;refine Y28 ?_;refine yZ ?_
    refine s_val (v_callD (fun _ => bound_c v [u.1.ty] (by omega) (by simp))) ?_;refine yM ?_;refine s_call (H t (v ++ [u.1.ty]) a (m.f t v a (m.f (.li u.1) v a q.2 l).2.1 (m.f (.li u.1) v a q.2 l).2.2).2.1 _ _ (hu1 u.1) ha (by omega)) ?_;refine s_val (v_callD (fun _ => Ca_c (pcM (sumR 2) 1 [anyM, pcM (sumR 2) 0 []]) _)) ?_;refine yG ?_;refine s_val (v_callD (fun _ => Any_c)) ?_;refine s_val (v_callD (fun _ => Any_c)) ?_;refine yZ ?_;refine s_val (v_callD (fun _ => PC_c (sumR 2) 1 [anyM, anyM])) ?_;refine Y28 ?_;refine Y28 ?_;refine yG ?_;refine Y47 ?_;refine s_val (v_callD (fun _ => D_c (sumR 2) [_])) ?_;refine yZ ?_;refine s_val (v_callD (fun _ => bound_c v [u.1.ty, (TT.li u.1).ty] (by omega) (by simp))) ?_;refine yM ?_
    refine s_call (H t (v ++ [u.1.ty, (TT.li u.1).ty]) a (m.f t (v ++ [u.1.ty]) a (m.f t v a (m.f (.li u.1) v a q.2 l).2.1 (m.f (.li u.1) v a q.2 l).2.2).2.1 (m.f t v a (m.f (.li u.1) v a q.2 l).2.1 (m.f (.li u.1) v a q.2 l).2.2).2.2).2.1 _ _ (hu4 u.1) ha (by omega)) ?_;refine s_val (v_callD (fun _ => Ca_c (pcM (sumR 2) 1 [anyM, anyM]) _)) ?_;refine yZ ?_;refine s_val (v_callD (fun _ => Ma_c _ [.mk (pcM (sumR 2) 0 []) _, .mk (pcM (sumR 2) 1 [anyM, pcM (sumR 2) 0 []]) _, .mk (pcM (sumR 2) 1 [anyM, anyM]) _])) ?_;refine Y25 ?_;exact Tri.ret ⟨.inr rfl, ret1 rfl resV_cell (VImp.refl _), zO⟩
   ·skip
    rw [if_neg (fun e => by rw [e] at h2; simp at h2)];refine Y10 ?_;refine Tri.cond rfl (fun h3 => ?_) (fun h3 => ?_)
    ·skip
     rw [if_pos (eq_of_beq h3)];refine Y1 ?_;refine yG ?_;refine Y47 ?_;refine s_val (v_callD (fun _ => D_c (sumR 4) [_])) ?_;refine Y22 ?_;refine s_call (H (.op u.1) v a q.2 l _ hv0 ha (by omega)) ?_;refine s_alloc SS 13 ?_;refine yS ?_;refine e_seqN [13] ?_;refine Y6 ?_;refine yG ?_;refine s_val (v_callD (fun _ => Any_c)) ?_;refine yZ ?_;refine s_val (v_callD (fun _ => PC_c (sumR 4) 1 [anyM])) ?_;refine Y28 ?_;refine Y28 ?_;refine yZ ?_;refine s_val (v_callD (fun _ => bound_c v [u.1.ty] (by omega) (by simp))) ?_;refine yM ?_;refine s_call (H t (v ++ [u.1.ty]) a (m.f (.op u.1) v a q.2 l).2.1 _ _ (hu1 u.1) ha (by omega)) ?_;refine s_val (v_callD (fun _ => Ca_c (pcM (sumR 4) 1 [anyM]) _)) ?_;refine yG ?_;refine s_val (v_callD (fun _ => PC_c (sumR 4) 0 [])) ?_;refine Y28 ?_;refine Y22 ?_
     refine s_call (H t v a (m.f t (v ++ [u.1.ty]) a (m.f (.op u.1) v a q.2 l).2.1 (m.f (.op u.1) v a q.2 l).2.2).2.1 _ _ hv0 ha (by omega)) ?_;refine s_val (v_callD (fun _ => Ca_c (pcM (sumR 4) 0 []) _)) ?_;refine yZ ?_;refine s_val (v_callD (fun _ => Ma_c _ [.mk (pcM (sumR 4) 1 [anyM]) _, .mk (pcM (sumR 4) 0 []) _])) ?_;refine Y25 ?_;exact Tri.ret ⟨.inr rfl, ret1 rfl resV_cell (VImp.refl _), zO⟩
    ·skip
     rw [if_neg (fun e => by rw [e] at h3; simp at h3)];refine Y10 ?_;refine Tri.cond rfl (fun h4 => ?_) (fun h4 => ?_)
     ·skip
      rw [if_pos (eq_of_beq h4)];refine Y1 ?_;refine yG ?_;refine yL ?_;refine s_val (v_callD (fun _ => N_c)) ?_;refine yZ ?_;refine s_val (v_callD (fun _ => D_c (sumR 3) [_, _])) ?_;refine Y22 ?_;refine s_call (H (.pa u.1 .n) v a q.2 l _ hv0 ha (by omega)) ?_;refine s_alloc SS 14 ?_;refine yS ?_;refine e_drawN [14] ?_;refine Y6 ?_;refine yG ?_;refine s_val (v_callD (fun _ => Any_c)) ?_;refine yM ?_;refine Y16 ?_;refine s_call (less_c bs 2 (m.f (.pa u.1 .n) v a q.2 l).2.1 (by omega)) ?_;refine s_val (v_callD (fun _ => PN_c _)) ?_;refine yZ ?_;refine s_val (v_callD (fun _ => PC_c (sumR 3) 0 [anyM, pnM _])) ?_;refine Y28 ?_;refine Y28 ?_;refine yZ ?_;refine s_val (v_callD (fun _ => bound_c v [u.1.ty] (by omega) (by simp))) ?_;refine yM ?_
      refine s_call (H t (v ++ [u.1.ty]) a (lessM bs 2 (m.f (.pa u.1 .n) v a q.2 l).2.1).2 _ _ (hu1 u.1) ha (by omega)) ?_;refine s_val (v_callD (fun _ => Ca_c (pcM (sumR 3) 0 [anyM, pnM _]) _)) ?_;refine yG ?_;refine s_val (v_callD (fun _ => Any_c)) ?_;refine s_val (v_callD (fun _ => Any_c)) ?_;refine yZ ?_;refine s_val (v_callD (fun _ => PC_c (sumR 3) 0 [anyM, anyM])) ?_;refine Y28 ?_;refine Y28 ?_;refine s_val (v_callD (fun _ => N_c)) ?_;refine yZ ?_;refine s_val (v_callD (fun _ => bound_c v [u.1.ty, natY] (by omega) (by simp))) ?_;refine yM ?_;refine s_call (H t (v ++ [u.1.ty, natY]) a (m.f t (v ++ [u.1.ty]) a (lessM bs 2 (m.f (.pa u.1 .n) v a q.2 l).2.1).2 (m.f (.pa u.1 .n) v a q.2 l).2.2).2.1 _ _ (hu3 u.1) ha (by omega)) ?_;refine s_val (v_callD (fun _ => Ca_c (pcM (sumR 3) 0 [anyM, anyM]) _)) ?_;refine yZ ?_
      refine s_val (v_callD (fun _ => Ma_c _ [.mk (pcM (sumR 3) 0 [anyM, pnM _]) _, .mk (pcM (sumR 3) 0 [anyM, anyM]) _])) ?_;refine Y25 ?_;exact Tri.ret ⟨.inr rfl, ret1 rfl resV_cell (VImp.refl _), zO⟩
     ·skip
      rw [if_neg (fun e => by rw [e] at h4; simp at h4)];refine Tri.skip ?_;refine Y1 ?_;refine yG ?_;refine s_val (v_callD (fun _ => D_c (sumR 1) [])) ?_;refine Y22 ?_;refine s_call (H (.ba .b) v a q.2 l _ hv0 ha (by omega)) ?_;refine s_alloc SS 15 ?_;refine yS ?_;refine e_seqN [15] ?_;refine Y6 ?_;refine yG ?_;refine s_val (v_callD (fun _ => PC_c (sumR 1) 0 [])) ?_;refine Y28 ?_;refine Y22 ?_;refine s_call (H t v a (m.f (.ba .b) v a q.2 l).2.1 _ _ hv0 ha (by omega)) ?_;refine s_val (v_callD (fun _ => Ca_c (pcM (sumR 1) 0 []) _)) ?_;refine yG ?_;refine s_val (v_callD (fun _ => PC_c (sumR 1) 1 [])) ?_;refine Y28 ?_;refine Y22 ?_;refine s_call (H t v a (m.f t v a (m.f (.ba .b) v a q.2 l).2.1 (m.f (.ba .b) v a q.2 l).2.2).2.1 _ _ hv0 ha (by omega)) ?_;refine s_val (v_callD (fun _ => Ca_c (pcM (sumR 1) 1 []) _)) ?_;refine yZ ?_
      refine s_val (v_callD (fun _ => Ma_c _ [.mk (pcM (sumR 1) 0 []) _, .mk (pcM (sumR 1) 1 []) _])) ?_;refine Y25 ?_;exact Tri.ret ⟨.inr rfl, ret1 rfl resV_cell (VImp.refl _), zO⟩
end Go.Proofs.YtkcgkignhpepkaaGreatDoor

/- The maker's handlers. -/
namespace Go.Proofs.YtkcgkignhpepkaaGreatDoor
open Go Hs
theorem ab_inj (x y : AB) : (x.ref == y.ref) = decide (x = y) := by cases x <;> cases y <;> rfl
section
variable {G : List (Nat × TypeId × Pu)}
theorem index_c (a : List AB) (c : AB) (ha : a.length ≤ 40) : ∃ z : Int, (z ≥ 0 ↔ c ∈ a) ∧ FCall Tryz.prog G 244 [.pu (.sl 0 28 (sumsP a)), .pu (refP c.ref)] (iv .i64 z) := by
 have hal := sums_len a
 by_cases hm : c ∈ a
 ·obtain ⟨j, hj, hjc, hbef⟩ : ∃ j, ∃ h : j < a.length, a[j] = c ∧ ∀ i (hi : i < j), a[i]'(by omega) ≠ c := by
   obtain ⟨j, ⟨hj, hjc⟩, hmin⟩ := least (p := fun j => ∃ h : j < a.length, a[j] = c) (by obtain ⟨i, hi, e⟩ := List.getElem_of_mem hm; exact ⟨i, hi, e⟩)
   exact ⟨j, hj, hjc, fun i hi e => by have := hmin i ⟨by omega, e⟩; omega⟩
  refine ⟨j, by simp [hm], ?_⟩
  refine FCall.of_tri tbl 19 Tryz.func244 rfl rfl rfl fun w0 M ρ0 D0 => ?_
  refine yR ?_;refine s_box SS 3 ?_;refine yB ?_;refine e_seqN [3] ?_;refine Y1 ?_;refine Y36 ?_;refine Tri.block (Tri.loopW (σ := {i : Nat // i ≤ j}) (fun i => ⟨[(0, .pu (.sl 0 28 (sumsP a))), (3, .ptr 3 [] 28), (7, iv .i64 (sumsP a).length), (8, iv .i64 i.1)], [(3, .var 28 (.pu (refP c.ref)))]⟩) (fun i => j - i.1) ⟨0, Nat.zero_le _⟩ ?_ ?_ (fun i => ?_))
  ·exact zW
  ·exact zW
  refine Y34 ?_;refine Tri.cond rfl (fun h0 => ?_) (fun h0 => ?_)
  ·skip
   have hi : i.1 < a.length := by have := i.2; omega
   have hget : (sumsP a)[i.1]? = some (refP (a[i.1]).ref) := by simp [sumsP, hi]
   refine Tri.skip ?_;refine tQ ?_;refine Tri.block ?_;refine Y56 ?_;refine Y6 ?_;refine Y22 ?_;refine s_val (v_index SS (h0 := by omega) (hp := hget)) ?_;refine yL ?_;refine s_val (v_bin SS (h := bin_eqS ((ab_len c).trans (ab_len _).symm))) ?_;refine Y18 ?_;refine Tri.cond rfl (fun h1 => ?_) (fun h1 => ?_)
   ·skip
    have he : c = a[i.1] := of_decide_eq_true ((ab_inj c a[i.1]).symm.trans h1)
    have hij : i.1 = j := Decidable.byContradiction fun hne => hbef i.1 (by have := i.2; omega) he.symm
    refine Y1 ?_;refine Y2 ?_;exact Tri.ret ⟨.inr rfl, ret1 rfl resV_tmp (iv_imp (by rw [hij]))⟩
   ·skip
    have he : ¬ c = a[i.1] := of_decide_eq_false ((ab_inj c a[i.1]).symm.trans h1)
    have hn : i.1 + 1 ≤ j := Decidable.byContradiction fun hne => by
     have hij : i.1 = j := by have := i.2; omega
     apply he;rw [← hjc]
     congr 1
     exact hij.symm
    refine Tri.skip ?_;refine Y27 ?_
    refine ⟨⟨i.1 + 1, hn⟩, by show j - (i.1 + 1) < j - i.1; omega, le_of ?_ ?_⟩
    ·exact zE
    ·exact zH
  ·exfalso
   have := of_decide_eq_false h0
   have := i.2
   omega
 ·refine ⟨-1, by simp [hm], ?_⟩
  refine FCall.of_tri tbl 19 Tryz.func244 rfl rfl rfl fun w0 M ρ0 D0 => ?_
  refine yR ?_;refine s_box SS 3 ?_;refine yB ?_;refine e_seqN [3] ?_;refine Y1 ?_;refine Y36 ?_;refine Tri.block (Tri.loopW (σ := Nat) (fun i => ⟨[(0, .pu (.sl 0 28 (sumsP a))), (3, .ptr 3 [] 28), (7, iv .i64 (sumsP a).length), (8, iv .i64 i)], [(3, .var 28 (.pu (refP c.ref)))]⟩) (fun i => a.length - i) 0 ?_ ?_ (fun i => ?_))
  ·exact zW
  ·exact zW
  refine Y34 ?_;refine Tri.cond rfl (fun h0 => ?_) (fun h0 => ?_)
  ·skip
   have hi : i < a.length := by have := of_decide_eq_true h0; omega
   have hget : (sumsP a)[i]? = some (refP (a[i]).ref) := by simp [sumsP, hi]
   refine Tri.skip ?_;refine tQ ?_;refine Tri.block ?_;refine Y56 ?_;refine Y6 ?_;refine Y22 ?_;refine s_val (v_index SS (h0 := by omega) (hp := hget)) ?_;refine yL ?_;refine s_val (v_bin SS (h := bin_eqS ((ab_len c).trans (ab_len _).symm))) ?_;refine Y18 ?_;refine Tri.cond rfl (fun h1 => ?_) (fun h1 => ?_)
   ·exfalso
    have he : c = a[i] := of_decide_eq_true ((ab_inj c a[i]).symm.trans h1)
    exact hm (he ▸ List.getElem_mem hi)
   ·skip
    refine Tri.skip ?_;refine Y27 ?_
    refine ⟨i + 1, by omega, le_of ?_ ?_⟩
    ·exact zE
    ·exact zH
  ·skip
   refine Tri.exit ?_;refine Y9 ?_;exact Tri.ret ⟨.inr rfl, ret1 rfl resV_tmp (VImp.refl _)⟩
theorem contains_c (a : List AB) (c : AB) (ha : a.length ≤ 40) : FCall Tryz.prog G 226 [.pu (.sl 0 28 (sumsP a)), .pu (refP c.ref)] (bv (decide (c ∈ a))) := by
 obtain ⟨z, hz, hc⟩ := index_c (G := G) a c ha
 refine FCall.of_tri tbl 9 Tryz.func226 rfl rfl rfl fun w0 M ρ0 D0 => ?_
 refine yR ?_;refine s_box SS 3 ?_;refine yB ?_;refine e_seqN [3] ?_;refine Y33 ?_;refine s_val (v_callD (fun _ => hc)) ?_;refine yI ?_;refine Y2 ?_;exact Tri.ret ⟨.inr rfl, ret1 rfl resV_tmp (bv_imp (decide_eq_decide.2 hz))⟩
theorem HaX_c (r : List Int) (ks : List Tm) : FCall Tryz.prog G 37 [.pu (refP r), .xs 0 32 (tmsc 0 ks)] (.agg 32 [iv .i64 12, iv .i64 0, .pu (refP r), .xs 0 32 (tmsc 0 ks), .nilc]) := by
 refine FCall.of_tri tbl 8 Tryz.func37 rfl rfl rfl fun w0 M ρ0 D0 => ?_
 refine yR ?_;refine s_box SS 2 ?_;refine s_alloc SS 4 ?_;refine e_seqN [2, 4] ?_;refine Y6 ?_;refine yM ?_;refine Y41 ?_;exact Tri.ret ⟨.inr rfl, ret1 rfl resV_cell (VImp.refl _)⟩
end
end Go.Proofs.YtkcgkignhpepkaaGreatDoor

/- The maker's handlers, and the maker. -/
namespace Go.Proofs.YtkcgkignhpepkaaGreatDoor
open Go Hs
variable (bs : List Int) [hz : Bz bs] (m : Mk) [hm : Mc m] [hml : Ml m] (n : Nat)
theorem sums_app (a b : List AB) : sumsP (a ++ b) = sumsP a ++ sumsP b := by simp [sumsP]
theorem Le_c {G : List (Nat × TypeId × Pu)} (s t : Tm) : FCall Tryz.prog G 44 [.pu (tmc 0 s), .pu (tmc 0 t)] (.pu (tmc 0 (leM s t))) := by
 refine FCall.of_tri tbl 9 Tryz.func44 rfl rfl rfl fun w0 M ρ0 D0 => ?_
 refine yR ?_;refine s_box SS 2 ?_;refine s_box SS 3 ?_;refine s_alloc SS 4 ?_;refine e_seqN [2, 3, 4] ?_;refine Y39 ?_;refine yZ ?_;refine Y41 ?_;exact Tri.ret ⟨.inr rfl, ret1 rfl resV_cell (ToPu.imp (by repeat constructor))⟩
theorem hmany_le (c : AB) : (if c = .st then 2 else 1 : Nat) ≤ 2 := by split <;> omega
theorem abM_get {k : Int} (h : 0 ≤ k ∧ k < 3) : [refP (sumR 11), refP (sumR 12), refP (sumR 13)][k.toNat]? = some (refP (abM k).ref) := by
 obtain ⟨j, rfl⟩ := Int.eq_ofNat_of_zero_le h.1
 have hj : j < 3 := by omega
 rcases j with _ | _ | _ | j <;> first | rfl | omega
theorem fn_kind {t : TT} {k n : Int} {r : List Int} {ks : List Ty} (h : t.ty = .mk k n r ks) : (k == 3) = isFn t := by
 rcases t with (_ | _) | x | x | ⟨x, y⟩ | x <;> simp [TT.ty, BT.ty, natY] at h <;> obtain ⟨rfl, _⟩ := h <;> rfl
theorem clauses_len (t : TT) (v : List Ty) (a : List AB) (back : BT) (s : Sd) (l : Int) : ∀ i, (clausesM bs m t v a back s l i).1.length ≤ i
 | 0 => by simp [clausesM]
 | i + 1 => by
  have := clauses_len t v a back s l i
  simp [clausesM]; omega
set_option maxHeartbeats 4000000 in
theorem handle_c (H : TermC bs m n) (t : TT) (v : List Ty) (a : List AB) (hv : Vk v (n + 1)) (ha : a.length + (n + 1) ≤ 40) (s : Sd) (l : Int) {k : Int} [h : Bd s l k] [hl : Lt l n] (hk : k ≤ -1100) :
  HCall Tryz.prog gL 178 [.ptr 951 [] 174, .pu (tyc t.ty), .pu (.sl 0 58 (tysc v)), .pu (.sl 0 28 (sumsP a))] [] (mkO bs s l) (.pu (tmc 0 (handleMk bs m t v a s l).1)) (mkO bs (handleMk bs m t v a s l).2.1 (handleMk bs m t v a s l).2.2) [] := by
 obtain ⟨k', n', r', ks', hty⟩ : ∃ k n r ks, t.ty = .mk k n r ks := by rcases t.ty with ⟨a, b, c, d⟩; exact ⟨a, b, c, d, rfl⟩
 have hvl := hv.len
 have hal := sums_len a
 have hv0 : Vk v n := hv.less
 have hs1 (x : BT) : ysize x.ty ≤ 3 := bt_small x
 have hu1 (x : BT) : Vk (v ++ [x.ty]) n := hv.app (by simp) (by simp [hs1])
 have hu2 : Vk (v ++ [natY, lostY]) n := hv.app (by simp) (by simp [natY, lostY, ysize, ysizeL])
 have hu3 : Vk (v ++ [natY, lostY] ++ [t.ty]) n := by rw [List.append_assoc]; exact hv.app (by simp) (by simp [natY, lostY, ysize, ysizeL]; exact tt_small t)
 have hb3 := less_b bs s (n := 3) (by decide)
 obtain ⟨c, hc⟩ : ∃ c, c = abM (lessM bs 3 s).1 := ⟨_, rfl⟩
 have hcg := abM_get hb3
 rw [← hc] at hcg
 obtain ⟨q, hq⟩ : ∃ q, q = seldomM bs 4 (lessM bs 3 s).2 := ⟨_, rfl⟩
 have hbq : Bd q.2 l (k + 2) := hq ▸ Bd.mono (inferInstance : Bd (seldomM bs 4 (lessM bs 3 s).2).2 l (k + 1 + 1)) (by omega)
 have hty3 := fn_kind hty
 rw [hty]
 refine HCall.of_triD tbl 133 [950, 951] Tryz.func178 rfl rfl rfl fun w0 M ρ0 D0 => ?_
 simp only [handleMk, ← hc, ← hq]
 refine yR ?_;refine s_box SS 5 ?_;refine s_alloc SS 8 ?_;refine e_seqN [5, 8] ?_;refine Y38 ?_;refine yG ?_;refine yG ?_;refine yZ ?_;refine yM ?_;refine Y16 ?_;refine s_call (less_c bs 3 s (by omega)) ?_;refine s_val (v_indexx SS (h0 := hb3.1) (hp := hcg)) ?_;refine yL ?_;refine s_alloc SS 9 ?_;refine yS ?_;refine e_drawN [9] ?_;refine Y53 ?_;refine s_call (seldom_c bs 4 (lessM bs 3 s).2 (by omega)) ?_;refine Y11 ?_;refine Y23 ?_;refine e_seq ?_;rw [← hq];refine tQ ?_;refine Tri.cond rfl (fun h0 => ?_) (fun h0 => ?_)
 ·skip
  have hc0 : q.1 = true ∨ isFn t = true := by rw [hty3] at h0; simpa using h0
  rw [if_pos hc0];refine Y33 ?_;refine Y22 ?_;rw [← hty];refine s_call (made_c bs m n H t v a hv (by omega) q.2 l (by omega)) ?_;refine Y12 ?_;exact Tri.ret ⟨.inr rfl, ret1 rfl resV_cell (VImp.refl _), zO⟩
 ·skip
  have hc0 : ¬ (q.1 = true ∨ isFn t = true) := by rw [hty3] at h0; simpa using h0
  rw [if_neg hc0]
  obtain ⟨u, hu⟩ : ∃ u, u = plain0M bs q.2 := ⟨_, rfl⟩
  have hbu : Bd u.2 l (k + 3) := hu ▸ Bd.mono (inferInstance : Bd (plain0M bs q.2).2 l (k + 2 + 1)) (by omega)
  rw [← hu];refine Tri.skip ?_;refine Y53 ?_;refine s_call (plain0_c bs q.2 (by omega)) ?_;refine s_alloc SS 10 ?_;refine yS ?_;refine e_seqN [10] ?_;rw [← hu];refine Y56 ?_;refine Y33 ?_;refine s_val (v_callD (fun _ => contains_c a c (by omega))) ?_;refine yQ ?_;refine Y0 ?_;refine Tri.cutW (σ := {z : List AB // z = if c ∈ a then a else a ++ [c]}) (fun z => ⟨[(0, .ptr 951 [] 174), (2, .pu (.sl 0 58 (tysc v))), (3, .pu (.sl 0 28 (sumsP a))), (5, .ptr 5 [] 58), (8, .ptr 8 [] 32), (9, .ptr 9 [] 28), (10, .ptr 10 [] 58), (11, .pu (.sl 0 28 (sumsP z.1)))], [(5, .var 58 (.pu (tyc (.mk k' n' r' ks')))), (8, .var 32 (.agg 32 [iv .i64 0, iv .i64 0, .pu (refP Z32), .nilc, .nilc])), (9, .var 28 (.pu (refP c.ref))), (10, .var 58 (.pu (tyc u.1.ty)))] ++ mkO bs u.2 l⟩) ?_ (fun z => ?_)
  ·skip
   refine tQ ?_;refine Tri.cond rfl (fun h1 => ?_) (fun h1 => ?_)
   ·skip
    have hca : ¬ c ∈ a := by simpa using h1
    have hz0 : a ++ [c] = if c ∈ a then a else a ++ [c] := by rw [if_neg hca]
    have hz1 := sums_app a [c]
    refine Y1 ?_;refine s_callO (cloneS_c (sumsP a) (by omega)) ?_;refine Y47 ?_;refine s_appS ?_ ?_
    ·simp [sumsP]; omega
    refine yA ?_;refine e_draw ?_
    refine ⟨⟨_, hz0⟩, ?_, ?_⟩
    try rw [hz1]
    ·exact zW
    ·exact zW
   ·skip
    have hca : c ∈ a := by simpa using h1
    have hz0 : a = if c ∈ a then a else a ++ [c] := by rw [if_pos hca]
    refine Tri.skip ?_
    refine ⟨⟨_, hz0⟩, ?_, ?_⟩
    try rw [hz1]
    ·exact zW
    ·exact zW
  ·skip
   obtain ⟨z, hz⟩ := z
   dsimp only
   rw [← hz]
   have hzl : z.length + n ≤ 40 := by rw [hz]; split <;> (try simp) <;> omega
   obtain ⟨e, he⟩ : ∃ e, e = m.f (.ba u.1) v z u.2 l := ⟨_, rfl⟩
   have hbe : Bd e.2.1 e.2.2 (k + 103) := he ▸ Bd.mono (inferInstance : Bd (m.f (.ba u.1) v z u.2 l).2.1 (m.f (.ba u.1) v z u.2 l).2.2 (k + 3 + 100)) (by omega)
   have hle : Lt e.2.2 n := he ▸ inferInstance
   obtain ⟨g, hg⟩ : ∃ g, g = m.f t (v ++ [u.1.ty]) a e.2.1 e.2.2 := ⟨_, rfl⟩
   have hbg : Bd g.2.1 g.2.2 (k + 203) := hg ▸ Bd.mono (inferInstance : Bd (m.f t (v ++ [u.1.ty]) a e.2.1 e.2.2).2.1 (m.f t (v ++ [u.1.ty]) a e.2.1 e.2.2).2.2 (k + 103 + 100)) (by omega)
   have hlg : Lt g.2.2 n := hg ▸ inferInstance
   rw [← he, ← hg];refine Y6 ?_;refine Y28 ?_;refine Y22 ?_;refine s_call (H (.ba u.1) v z u.2 l _ hv0 hzl (by omega)) ?_;refine Y28 ?_;refine Y28 ?_;refine yZ ?_;rw [← he];refine s_val (v_callD (fun _ => bound_c v [u.1.ty] (by omega) (by simp))) ?_;refine yM ?_;rw [← hty];refine s_call (H t (v ++ [u.1.ty]) a e.2.1 e.2.2 _ (hu1 u.1) (by omega) (by omega)) ?_;rw [← hg];refine s_sl SS ?_;refine s_val (v_callD (fun _ => HaX_c c.ref [e.1, g.1])) ?_;refine s_alloc SS 12 ?_;refine yS ?_;refine e_drawN [12] ?_;refine yR ?_;refine s_val (v_callD (fun _ => N_c)) ?_;refine s_alloc SS 13 ?_;refine yS ?_;refine e_seqN [13] ?_;refine Y21 ?_
   obtain ⟨back, hback⟩ : ∃ b : BT, b = if c = .fl then .b else .n := ⟨_, rfl⟩
   obtain ⟨many, hmany⟩ : ∃ b : Nat, b = if c = .st then 2 else 1 := ⟨_, rfl⟩
   rw [← hback, ← hmany]
   have hbk (i : Nat) (hi : i ≤ many) : Bd (clausesM bs m t v a back g.2.1 g.2.2 i).2.1 (clausesM bs m t v a back g.2.1 g.2.2 i).2.2 (k + 807) := Bd.mono (clauses_bd bs m t v a back g.2.1 g.2.2 (k + 203) i) (by have h9 := hmany_le c; rw [← hmany] at h9; omega)
   have hlk (i : Nat) : Lt (clausesM bs m t v a back g.2.1 g.2.2 i).2.2 n := hlg.dn (clauses_dn bs m t v a back g.2.1 g.2.2 g.2.2 i)
   refine Y6 ?_;refine Y0 ?_;refine Tri.cutT ⟨[(0, .ptr 951 [] 174), (2, .pu (.sl 0 58 (tysc v))), (3, .pu (.sl 0 28 (sumsP a))), (5, .ptr 5 [] 58), (8, .ptr 8 [] 32), (12, .ptr 12 [] 32), (13, .ptr 13 [] 58), (14, iv .i64 many)], [(5, .var 58 (.pu (tyc t.ty))), (8, .var 32 (.agg 32 [iv .i64 0, iv .i64 0, .pu (refP Z32), .nilc, .nilc])), (12, .var 32 (.agg 32 [iv .i64 12, iv .i64 0, .pu (refP c.ref), .xs 0 32 (tmsc 0 [e.1, g.1]), .nilc])), (13, .var 58 (.pu (tyc back.ty)))] ++ mkO bs g.2.1 g.2.2⟩ ?_ ?_
   ·skip
    refine tQ ?_;refine Tri.block ?_;refine Y38 ?_;refine s_val (v_bin SS (h := bin_eqS (ab_len c))) ?_;refine Y2 ?_;refine Tri.cond rfl (fun h2 => ?_) (fun h2 => ?_)
    ·skip
     have hst : c = .st := of_decide_eq_true ((ab_st c).symm.trans h2)
     have hg2 : many = 2 := by rw [hmany, if_pos hst]
     have hg3 : back = .n := by rw [hback, if_neg (by rw [hst]; decide)]
     refine Y21 ?_;refine le_of ?_ ?_
     ·repeat (first | exact SubE.nil | refine SubE.cons rfl (by first | rfl | (rw [wrap64 (by omega) (by omega)]; rfl) | (first | (rw [hty]; done) | (rw [hg2]; rfl) | (rw [hg3]; rfl))) ?_)
     ·repeat (first | exact SubH.nil | refine SubH.cons rfl (by first | rfl | (rw [wrap64 (by omega) (by omega)]; rfl) | (first | (rw [hty]; done) | (rw [hg2]; rfl) | (rw [hg3]; rfl))) ?_)
    ·skip
     have hst : ¬ c = .st := of_decide_eq_false ((ab_st c).symm.trans h2)
     have hg2 : many = 1 := by rw [hmany, if_neg hst]
     refine Y38 ?_;refine s_val (v_bin SS (h := bin_eqS (ab_len c))) ?_;refine Y2 ?_;refine Tri.cond rfl (fun h3 => ?_) (fun h3 => ?_)
     ·skip
      have hfl : c = .fl := of_decide_eq_true ((ab_inj c .fl).symm.trans h3)
      have hg3 : back = .b := by rw [hback, if_pos hfl]
      refine Y38 ?_;refine s_val (v_callD (fun _ => D_c (sumR 1) [])) ?_;refine Y14 ?_;refine le_of ?_ ?_
      ·repeat (first | exact SubE.nil | refine SubE.cons rfl (by first | rfl | (rw [wrap64 (by omega) (by omega)]; rfl) | (first | (rw [hty]; done) | (rw [hg2]; rfl) | (rw [hg3]; rfl))) ?_)
      ·repeat (first | exact SubH.nil | refine SubH.cons rfl (by first | rfl | (rw [wrap64 (by omega) (by omega)]; rfl) | (first | (rw [hty]; done) | (rw [hg2]; rfl) | (rw [hg3]; rfl))) ?_)
     ·skip
      have hfl : ¬ c = .fl := of_decide_eq_false ((ab_inj c .fl).symm.trans h3)
      have hg3 : back = .n := by rw [hback, if_neg hfl]
      refine Tri.skip ?_;refine le_of ?_ ?_
      ·repeat (first | exact SubE.nil | refine SubE.cons rfl (by first | rfl | (rw [wrap64 (by omega) (by omega)]; rfl) | (first | (rw [hty]; done) | (rw [hg2]; rfl) | (rw [hg3]; rfl))) ?_)
      ·repeat (first | exact SubH.nil | refine SubH.cons rfl (by first | rfl | (rw [wrap64 (by omega) (by omega)]; rfl) | (first | (rw [hty]; done) | (rw [hg2]; rfl) | (rw [hg3]; rfl))) ?_)
   ·skip
    refine Y1 ?_;refine yJ ?_;refine Y0 ?_;refine Tri.block (Tri.loopW (σ := {i : Nat // i ≤ many}) (fun i => ⟨[(0, .ptr 951 [] 174), (2, .pu (.sl 0 58 (tysc v))), (3, .pu (.sl 0 28 (sumsP a))), (5, .ptr 5 [] 58), (8, .ptr 8 [] 32), (12, .ptr 12 [] 32), (13, .ptr 13 [] 58), (84, iv .i64 many), (85, iv .i64 i.1)], [(5, .var 58 (.pu (tyc t.ty))), (8, .var 32 (.agg 32 [iv .i64 0, iv .i64 0, .pu (refP Z32), .nilc, .nilc])), (12, .var 32 (.agg 32 [iv .i64 12, iv .i64 0, .pu (refP c.ref), .ow 0 32 (tmsc 0 (e.1 :: g.1 :: (clausesM bs m t v a back g.2.1 g.2.2 i.1).1)), .nilc])), (13, .var 58 (.pu (tyc back.ty)))] ++ mkO bs (clausesM bs m t v a back g.2.1 g.2.2 i.1).2.1 (clausesM bs m t v a back g.2.1 g.2.2 i.1).2.2⟩) (fun i => many - i.1) ⟨0, Nat.zero_le _⟩ ?_ ?_ (fun i => ?_))
    ·exact zW
    ·exact zW
    refine Y34 ?_;refine Tri.cond rfl (fun h4 => ?_) (fun h4 => ?_)
    ·skip
     have hi : i.1 < many := by have := of_decide_eq_true h4; omega
     have hbp := hbk i.1 i.2
     have hlp := hlk i.1
     have hstep : clausesM bs m t v a back g.2.1 g.2.2 (i.1 + 1) = ((clausesM bs m t v a back g.2.1 g.2.2 i.1).1 ++ [(clauseM bs m t v a back (clausesM bs m t v a back g.2.1 g.2.2 i.1).2.1 (clausesM bs m t v a back g.2.1 g.2.2 i.1).2.2).1], (clauseM bs m t v a back (clausesM bs m t v a back g.2.1 g.2.2 i.1).2.1 (clausesM bs m t v a back g.2.1 g.2.2 i.1).2.2).2) := rfl
     have hzsl : (clausesM bs m t v a back g.2.1 g.2.2 i.1).1.length ≤ i.1 := clauses_len bs m t v a back g.2.1 g.2.2 i.1
     have hmany2 : many ≤ 2 := by rw [hmany]; split <;> omega
     generalize clausesM bs m t v a back g.2.1 g.2.2 i.1 = p at hbp hlp hstep hzsl ⊢
     obtain ⟨zs, s0, l0⟩ := p
     simp only at hbp hlp hstep hzsl ⊢
     obtain ⟨f, hf⟩ : ∃ f, f = m.f t (v ++ [natY, lostY]) a s0 l0 := ⟨_, rfl⟩
     have hbf : Bd f.2.1 f.2.2 (k + 907) := hf ▸ Bd.mono (inferInstance : Bd (m.f t (v ++ [natY, lostY]) a s0 l0).2.1 (m.f t (v ++ [natY, lostY]) a s0 l0).2.2 (k + 807 + 100)) (by omega)
     have hlf : Lt f.2.2 n := hf ▸ inferInstance
     obtain ⟨x, hx⟩ : ∃ x, x = seldomM bs 3 f.2.1 := ⟨_, rfl⟩
     have hbx : Bd x.2 f.2.2 (k + 908) := hx ▸ Bd.mono (inferInstance : Bd (seldomM bs 3 f.2.1).2 f.2.2 (k + 907 + 1)) (by omega)
     simp only [clauseM, ← hf, ← hx] at hstep
     refine Tri.skip ?_;refine tQ ?_;refine Tri.block ?_;refine Y1 ?_;refine s_val (v_callD (fun _ => N_c)) ?_;refine s_val (v_callD (fun _ => none_c)) ?_;refine yZ ?_;refine s_val (v_callD (fun _ => bound_c v [natY, lostY] (by omega) (by simp))) ?_;refine Y13 ?_;refine Y33 ?_;refine Y22 ?_;refine s_call (H t (v ++ [natY, lostY]) a s0 l0 _ hu2 (by omega) (by omega)) ?_;refine s_alloc SS 16 ?_;refine yS ?_;refine e_seqN [16] ?_;rw [← hf];refine Y53 ?_;refine s_call (seldom_c bs 3 f.2.1 (by omega)) ?_;refine yQ ?_;refine e_seq ?_;rw [← hx];refine tQ ?_
     refine Tri.cutW (σ := {y : Tm × Sd × Int // Bd y.2.1 y.2.2 (k + 1008) ∧ Lt y.2.2 n ∧ clausesM bs m t v a back g.2.1 g.2.2 (i.1 + 1) = (zs ++ [if (seldomM bs 4 y.2.1).1 = true then leM y.1 (m.f t (v ++ [natY, lostY] ++ [t.ty]) a (seldomM bs 4 y.2.1).2 y.2.2).1 else y.1], if (seldomM bs 4 y.2.1).1 = true then (m.f t (v ++ [natY, lostY] ++ [t.ty]) a (seldomM bs 4 y.2.1).2 y.2.2).2 else ((seldomM bs 4 y.2.1).2, y.2.2))}) (fun y => ⟨[(0, .ptr 951 [] 174), (2, .pu (.sl 0 58 (tysc v))), (3, .pu (.sl 0 28 (sumsP a))), (5, .ptr 5 [] 58), (8, .ptr 8 [] 32), (12, .ptr 12 [] 32), (13, .ptr 13 [] 58), (15, .pu (.sl 0 58 (tysc (v ++ [natY, lostY])))), (16, .ptr 16 [] 32), (84, iv .i64 many), (85, iv .i64 i.1)], [(5, .var 58 (.pu (tyc t.ty))), (8, .var 32 (.agg 32 [iv .i64 0, iv .i64 0, .pu (refP Z32), .nilc, .nilc])), (12, .var 32 (.agg 32 [iv .i64 12, iv .i64 0, .pu (refP c.ref), .ow 0 32 (tmsc 0 (e.1 :: g.1 :: zs)), .nilc])), (13, .var 58 (.pu (tyc back.ty))), (16, .var 32 (.pu (tmc 0 y.1.1)))] ++ mkO bs y.1.2.1 y.1.2.2⟩) ?_ (fun y => ?_)
     ·skip
      refine tQ ?_;refine Tri.cond rfl (fun h5 => ?_) (fun h5 => ?_)
      ·skip
       have hx5 : x.1 = false := by simpa using h5
       have hy : Bd (m.f (.ba back) (v ++ [natY, lostY]) a x.2 f.2.2).2.1 (m.f (.ba back) (v ++ [natY, lostY]) a x.2 f.2.2).2.2 (k + 1008) ∧ Lt (m.f (.ba back) (v ++ [natY, lostY]) a x.2 f.2.2).2.2 n := ⟨Bd.mono (inferInstance : Bd (m.f (.ba back) (v ++ [natY, lostY]) a x.2 f.2.2).2.1 (m.f (.ba back) (v ++ [natY, lostY]) a x.2 f.2.2).2.2 (k + 908 + 100)) (by omega), inferInstance⟩
       rw [if_pos hx5] at hstep
       refine yR ?_;refine s_val (v_callD (fun _ => Va_c 0)) ?_;refine Y28 ?_;refine Y22 ?_;refine s_call (H (.ba back) (v ++ [natY, lostY]) a x.2 f.2.2 _ hu2 (by omega) (by omega)) ?_;refine s_val (v_callD (fun _ => Ap_c _ _)) ?_;refine yS ?_;refine e_draw ?_
       first | refine ⟨⟨(apM (vaM 0) (m.f (.ba back) (v ++ [natY, lostY]) a x.2 f.2.2).1, (m.f (.ba back) (v ++ [natY, lostY]) a x.2 f.2.2).2.1, (m.f (.ba back) (v ++ [natY, lostY]) a x.2 f.2.2).2.2), hy.1, hy.2, ?_⟩, ?_, ?_⟩ | refine ⟨⟨(f.1, x.2, f.2.2), hy.1, hy.2, ?_⟩, ?_, ?_⟩
       ·rw [hstep]
        split <;> rfl
       ·exact zW
       ·exact zW
      ·skip
       have hx5 : ¬ x.1 = false := by simpa using h5
       have hy : Bd x.2 f.2.2 (k + 1008) ∧ Lt f.2.2 n := ⟨Bd.mono hbx (by omega), hlf⟩
       rw [if_neg hx5] at hstep
       refine Tri.skip ?_
       first | refine ⟨⟨(apM (vaM 0) (m.f (.ba back) (v ++ [natY, lostY]) a x.2 f.2.2).1, (m.f (.ba back) (v ++ [natY, lostY]) a x.2 f.2.2).2.1, (m.f (.ba back) (v ++ [natY, lostY]) a x.2 f.2.2).2.2), hy.1, hy.2, ?_⟩, ?_, ?_⟩ | refine ⟨⟨(f.1, x.2, f.2.2), hy.1, hy.2, ?_⟩, ?_, ?_⟩
       ·rw [hstep]
        split <;> rfl
       ·exact zW
       ·exact zW
     ·skip
      obtain ⟨⟨b, s1, l1⟩, hb1, hl1, hst1⟩ := y
      simp only at hb1 hl1 hst1 ⊢
      obtain ⟨w, hw⟩ : ∃ w, w = seldomM bs 4 s1 := ⟨_, rfl⟩
      have hbw : Bd w.2 l1 (k + 1009) := hw ▸ Bd.mono (inferInstance : Bd (seldomM bs 4 s1).2 l1 (k + 1008 + 1)) (by omega)
      rw [← hw] at hst1
      refine Y53 ?_;refine s_call (seldom_c bs 4 s1 (by omega)) ?_;refine e_seq ?_;rw [← hw];refine tQ ?_;refine Tri.cond rfl (fun h6 => ?_) (fun h6 => ?_)
      ·skip
       rw [if_pos h6, if_pos h6] at hst1
       have hts : tmsc 0 (e.1 :: g.1 :: (clausesM bs m t v a back g.2.1 g.2.2 (i.1 + 1)).1) = tmsc 0 (e.1 :: g.1 :: zs) ++ [tmc 0 (leM b (m.f t (v ++ [natY, lostY] ++ [t.ty]) a w.2 l1).1)] := by rw [hst1]; exact tms_app (e.1 :: g.1 :: zs) [_]
       refine Y6 ?_;refine Y28 ?_;refine Y28 ?_;refine yZ ?_;refine s_val (v_callD (fun _ => bound_c (v ++ [natY, lostY]) [t.ty] (by simp; omega) (by simp))) ?_;refine yM ?_;refine s_call (H t (v ++ [natY, lostY] ++ [t.ty]) a w.2 l1 _ hu3 (by omega) (by omega)) ?_;refine s_val (v_callD (fun _ => Le_c _ _)) ?_;refine yS ?_;refine e_draw ?_;refine Y19 ?_;refine Y47 ?_;refine s_app2 12 [3] ?_ ?_
       ·simp [tms_eq]; omega
       refine yF ?_;refine yW ?_;refine e_seq ?_;refine Y27 ?_
       refine ⟨⟨i.1 + 1, hi⟩, by show many - (i.1 + 1) < many - i.1; omega, le_of ?_ ?_⟩
       ·repeat (first | exact SubE.nil | refine SubE.cons rfl (by first | rfl | (rw [wrap64 (by omega) (by omega)]; rfl) | (first | (rw [hts]; rfl) | (rw [hst1]; done) | (rw [hst1]; rfl))) ?_)
       ·repeat (first | exact SubH.nil | refine SubH.cons rfl (by first | rfl | (rw [wrap64 (by omega) (by omega)]; rfl) | (first | (rw [hts]; rfl) | (rw [hst1]; done) | (rw [hst1]; rfl))) ?_)
      ·skip
       rw [if_neg (by rw [h6]; decide), if_neg (by rw [h6]; decide)] at hst1
       have hts : tmsc 0 (e.1 :: g.1 :: (clausesM bs m t v a back g.2.1 g.2.2 (i.1 + 1)).1) = tmsc 0 (e.1 :: g.1 :: zs) ++ [tmc 0 b] := by rw [hst1]; exact tms_app (e.1 :: g.1 :: zs) [_]
       refine Tri.skip ?_;refine Y19 ?_;refine Y47 ?_;refine s_app2 12 [3] ?_ ?_
       ·simp [tms_eq]; omega
       refine yF ?_;refine yW ?_;refine e_seq ?_;refine Y27 ?_
       refine ⟨⟨i.1 + 1, hi⟩, by show many - (i.1 + 1) < many - i.1; omega, le_of ?_ ?_⟩
       ·repeat (first | exact SubE.nil | refine SubE.cons rfl (by first | rfl | (rw [wrap64 (by omega) (by omega)]; rfl) | (first | (rw [hts]; rfl) | (rw [hst1]; done) | (rw [hst1]; rfl))) ?_)
       ·repeat (first | exact SubH.nil | refine SubH.cons rfl (by first | rfl | (rw [wrap64 (by omega) (by omega)]; rfl) | (first | (rw [hts]; rfl) | (rw [hst1]; done) | (rw [hst1]; rfl))) ?_)
    ·skip
     have hi : i.1 = many := by have := of_decide_eq_false h4; have := i.2; omega
     rw [hi];refine Tri.exit ?_;refine Y60 ?_;exact Tri.ret ⟨.inr rfl, ret1 rfl resV_cell (ToPu.imp (by repeat constructor)), zO⟩
end Go.Proofs.YtkcgkignhpepkaaGreatDoor

/- The maker of terms of types. -/
namespace Go.Proofs.YtkcgkignhpepkaaGreatDoor
open Go Hs
variable (bs : List Int) [hz : Bz bs]
theorem Bd.low {s : Sd} {l k : Int} (h : Bd s l k) (hk : k ≤ 0) : -4611686018427387904 ≤ l := by have := h.h; omega
theorem term0_c : TermC bs (termMk bs 0) 0 := by
 intro t v a s l k h hl hv ha hk
 have hlow := h.low hk
 have hll := hl.h
 have hwl : IntKind.i64.wrap (l - 1) = l - 1 := wrap64 (by omega) (by omega)
 have hb1 : Bd s (l - 1) (k + 1) := h.dec
 have hvl := hv.len
 refine HCall.of_triD tbl 117 [950, 951] Tryz.func111 rfl rfl rfl fun w0 M ρ0 D0 => ?_
 show Tri _ _ _ _ _
 simp only [termMk]
 refine yR ?_;refine s_box SS 5 ?_;refine s_alloc SS 8 ?_;refine e_seqN [5, 8] ?_;refine Y1 ?_;refine Y37 ?_;refine Y58 ?_;rw [hwl];refine Y1 ?_;refine Y37 ?_;refine Y0 ?_;refine Tri.cond rfl (fun h0 => ?_) (fun h0 => ?_)
 ·skip
  refine Y33 ?_;refine yM ?_;refine s_call (leaf_c bs t v (by omega) hv.sm s (l - 1) (by omega)) ?_;refine Y12 ?_;exact Tri.ret ⟨.inr rfl, ret1 rfl resV_cell (VImp.refl _), zO⟩
 ·exfalso
  have := of_decide_eq_false h0
  omega
set_option maxHeartbeats 2000000 in
theorem termS_c (n : Nat) (H : TermC bs (termMk bs n) n) : TermC bs (termMk bs (n + 1)) (n + 1) := by
 intro t v a s l k h hl hv ha hk
 have hlow := h.low hk
 have hll := hl.h
 have hwl : IntKind.i64.wrap (l - 1) = l - 1 := wrap64 (by omega) (by omega)
 have hb1 : Bd s (l - 1) (k + 1) := h.dec
 have hvl := hv.len
 have hv0 : Vk v n := hv.less
 have hts := tt_small
 have hu1 (x : TT) : Vk (v ++ [x.ty]) n := hv.app (by simp) (by simp; exact tt_small x)
 refine HCall.of_triD tbl 117 [950, 951] Tryz.func111 rfl rfl rfl fun w0 M ρ0 D0 => ?_
 show Tri _ _ _ _ _
 simp only [termMk]
 refine yR ?_;refine s_box SS 5 ?_;refine s_alloc SS 8 ?_;refine e_seqN [5, 8] ?_;refine Y1 ?_;refine Y37 ?_;refine Y58 ?_;rw [hwl];refine Y1 ?_;refine Y37 ?_;refine Y0 ?_;refine Tri.cond rfl (fun h0 => ?_) (fun h0 => ?_)
 ·skip
  rw [if_pos (of_decide_eq_true h0)];refine Y33 ?_;refine yM ?_;refine s_call (leaf_c bs t v (by omega) hv.sm s (l - 1) (by omega)) ?_;refine Y12 ?_;exact Tri.ret ⟨.inr rfl, ret1 rfl resV_cell (VImp.refl _), zO⟩
 ·skip
  have g0 := of_decide_eq_false h0
  rw [if_neg g0]
  simp only [nodeM]
  obtain ⟨y, hy⟩ : ∃ y, y = l - 1 := ⟨_, rfl⟩
  rw [← hy]
  have hbd : Bd s y (k - 2001) := hy ▸ h.down (by omega)
  have hly : Lt y n := ⟨by push_cast at hll; omega⟩
  obtain ⟨q, hq⟩ : ∃ q, q = lessM bs 10 s := ⟨_, rfl⟩
  have hbq : Bd q.2 y (k - 2000) := hq ▸ Bd.mono (inferInstance : Bd (lessM bs 10 s).2 y (k - 2001 + 1)) (by omega)
  have hqb := less_b bs s (n := 10) (by decide)
  rw [← hq] at hqb ⊢
  obtain ⟨m, hm⟩ : ∃ m, m = termMk bs n := ⟨_, rfl⟩
  have hmc : Mc m := hm ▸ inferInstance
  have hml : Ml m := hm ▸ inferInstance
  rw [← hm] at H ⊢
  refine Tri.skip ?_;refine Y53 ?_;refine s_call (less_c bs 10 s (by omega)) ?_;refine e_seq ?_;rw [← hq];refine tQ ?_;refine Tri.block ?_;refine Y10 ?_;refine Tri.cutT ⟨[(0, .ptr 951 [] 174), (2, .pu (.sl 0 58 (tysc v))), (3, .pu (.sl 0 28 (sumsP a))), (5, .ptr 5 [] 58), (8, .ptr 8 [] 32), (35, iv .i64 q.1), (36, bv (decide (q.1 < 2)))], [(5, .var 58 (.pu (tyc t.ty))), (8, .var 32 (.agg 32 [iv .i64 0, iv .i64 0, .pu (refP Z32), .nilc, .nilc]))] ++ mkO bs q.2 y⟩ ?_ ?_
  ·skip
   refine tQ ?_;refine Tri.cond rfl (fun h1 => ?_) (fun h1 => ?_)
   ·skip
    have hx1 : (q.1 == 0) = decide (q.1 < 2) := by have := eq_of_beq h1; rw [this]; rfl
    refine Tri.skip ?_;refine le_of ?_ ?_
    ·repeat (first | exact SubE.nil | refine SubE.cons rfl (by first | rfl | (rw [wrap64 (by omega) (by omega)]; rfl) | (exact congrArg bv hx1)) ?_)
    ·repeat (first | exact SubH.nil | refine SubH.cons rfl (by first | rfl | (rw [wrap64 (by omega) (by omega)]; rfl) | (exact congrArg bv hx1)) ?_)
   ·skip
    have hx1 : (q.1 == 1) = decide (q.1 < 2) := by
     have g1 : ¬ q.1 = 0 := by simpa using h1
     rw [Bool.eq_iff_iff, beq_iff_eq, decide_eq_true_iff]
     omega
    refine Y4 ?_;refine Y13 ?_;refine le_of ?_ ?_
    ·repeat (first | exact SubE.nil | refine SubE.cons rfl (by first | rfl | (rw [wrap64 (by omega) (by omega)]; rfl) | (exact congrArg bv hx1)) ?_)
    ·repeat (first | exact SubH.nil | refine SubH.cons rfl (by first | rfl | (rw [wrap64 (by omega) (by omega)]; rfl) | (exact congrArg bv hx1)) ?_)
  ·skip
   refine tQ ?_;refine Tri.cond rfl (fun h2 => ?_) (fun h2 => ?_)
   ·skip
    rw [if_pos (of_decide_eq_true h2)]
    obtain ⟨x, hx⟩ : ∃ x, x = heldM bs v t.ty q.2 := ⟨_, rfl⟩
    have hbx : Bd x.2 y (k - 1999) := hx ▸ Bd.mono (inferInstance : Bd (heldM bs v t.ty q.2).2 y (k - 2000 + 1)) (by omega)
    rw [← hx];refine Y33 ?_;refine yM ?_;refine s_call (held_c bs v (by omega) hv.sm t.ty (tt_small t) q.2 y (by omega)) ?_;refine Y51 ?_;refine s_alloc SS 9 ?_;refine yS ?_;refine yA ?_;refine e_seqN [9] ?_;rw [← hx];refine Y1 ?_;refine Y0 ?_;refine Tri.cond rfl (fun h3 => ?_) (fun h3 => ?_)
    ·skip
     rw [if_pos h3];refine Y60 ?_;exact Tri.ret ⟨.inr rfl, ret1 rfl resV_cell (VImp.refl _), zO⟩
    ·skip
     rw [if_neg (by rw [h3]; decide)]
     obtain ⟨s9, hs9⟩ : ∃ s9, s9 = x.2 := ⟨_, rfl⟩
     obtain ⟨l9, hl9⟩ : ∃ l9, l9 = y := ⟨_, rfl⟩
     have hb9 : Bd s9 l9 (k - 1000) := hs9 ▸ hl9 ▸ Bd.mono hbx (by omega)
     have hlt9 : Lt l9 n := hl9 ▸ hly
     rw [← hs9, ← hl9];refine Tri.skip ?_;refine Y33 ?_;refine Y22 ?_;refine s_call (made_c bs m n H t v a hv (by omega) s9 l9 (by omega)) ?_;refine Y12 ?_;exact Tri.ret ⟨.inr rfl, ret1 rfl resV_cell (VImp.refl _), zO⟩
   ·skip
    rw [if_neg (of_decide_eq_false h2)];refine Y10 ?_;refine Tri.cond rfl (fun h4 => ?_) (fun h4 => ?_)
    ·skip
     rw [if_pos (eq_of_beq h4)]
     obtain ⟨u, hu⟩ : ∃ u, u = someM bs q.2 := ⟨_, rfl⟩
     have hbu : Bd u.2 y (k - 1996) := hu ▸ Bd.mono (inferInstance : Bd (someM bs q.2).2 y (k - 2000 + 4)) (by omega)
     rw [← hu];refine Y1 ?_;refine s_call (some_c bs q.2 y (by omega)) ?_;refine s_alloc SS 11 ?_;refine yS ?_;refine e_seqN [11] ?_;rw [← hu];refine Y33 ?_;refine Y22 ?_;refine s_call (H u.1 v a u.2 y _ hv0 (by omega) (by omega)) ?_;refine Y28 ?_;refine Y28 ?_;refine yZ ?_;refine s_val (v_callD (fun _ => bound_c v [u.1.ty] (by omega) (by simp))) ?_;refine yM ?_;refine s_call (H t (v ++ [u.1.ty]) a (m.f u.1 v a u.2 y).2.1 _ _ (hu1 u.1) (by omega) (by omega)) ?_;refine s_val (v_callD (fun _ => Le_c _ _)) ?_;refine Y25 ?_;exact Tri.ret ⟨.inr rfl, ret1 rfl resV_cell (VImp.refl _), zO⟩
    ·skip
     have g4 : ¬ q.1 = 2 := by simpa using h4
     rw [if_neg g4];refine Y10 ?_;refine Tri.cond rfl (fun h5 => ?_) (fun h5 => ?_)
     ·skip
      rw [if_pos (eq_of_beq h5)]
      obtain ⟨u, hu⟩ : ∃ u, u = someM bs q.2 := ⟨_, rfl⟩
      have hbu : Bd u.2 y (k - 1996) := hu ▸ Bd.mono (inferInstance : Bd (someM bs q.2).2 y (k - 2000 + 4)) (by omega)
      rw [← hu];refine Y1 ?_;refine s_call (some_c bs q.2 y (by omega)) ?_;refine s_alloc SS 12 ?_;refine yS ?_;refine e_seqN [12] ?_;rw [← hu];refine Y33 ?_;refine Y28 ?_;refine yZ ?_;refine s_val (v_callD (fun _ => bound_c v [u.1.ty] (by omega) (by simp))) ?_;refine yM ?_;refine s_call (H t (v ++ [u.1.ty]) a u.2 y _ (hu1 u.1) (by omega) (by omega)) ?_;refine s_val (v_callD (fun _ => La_c _)) ?_;refine Y28 ?_;refine Y22 ?_;refine s_call (H u.1 v a (m.f t (v ++ [u.1.ty]) a u.2 y).2.1 _ _ hv0 (by omega) (by omega)) ?_;refine s_val (v_callD (fun _ => Ap_c _ _)) ?_;refine Y25 ?_;exact Tri.ret ⟨.inr rfl, ret1 rfl resV_cell (VImp.refl _), zO⟩
     ·skip
      have g5 : ¬ q.1 = 3 := by simpa using h5
      rw [if_neg g5];refine Y10 ?_;refine Tri.cutT ⟨[(0, .ptr 951 [] 174), (2, .pu (.sl 0 58 (tysc v))), (3, .pu (.sl 0 28 (sumsP a))), (5, .ptr 5 [] 58), (8, .ptr 8 [] 32), (35, iv .i64 q.1), (85, bv (decide (q.1 < 6)))], [(5, .var 58 (.pu (tyc t.ty))), (8, .var 32 (.agg 32 [iv .i64 0, iv .i64 0, .pu (refP Z32), .nilc, .nilc]))] ++ mkO bs q.2 y⟩ ?_ ?_
      ·skip
       refine tQ ?_;refine Tri.cond rfl (fun h6 => ?_) (fun h6 => ?_)
       ·skip
        have hx6 : (q.1 == 4) = decide (q.1 < 6) := by have := eq_of_beq h6; rw [this]; rfl
        refine Tri.skip ?_;refine le_of ?_ ?_
        ·repeat (first | exact SubE.nil | refine SubE.cons rfl (by first | rfl | (rw [wrap64 (by omega) (by omega)]; rfl) | (exact congrArg bv hx6)) ?_)
        ·repeat (first | exact SubH.nil | refine SubH.cons rfl (by first | rfl | (rw [wrap64 (by omega) (by omega)]; rfl) | (exact congrArg bv hx6)) ?_)
       ·skip
        have hx6 : (q.1 == 5) = decide (q.1 < 6) := by
         have g6 : ¬ q.1 = 4 := by simpa using h6
         have g2 := of_decide_eq_false h2
         rw [Bool.eq_iff_iff, beq_iff_eq, decide_eq_true_iff]
         omega
        refine Y4 ?_;refine Y13 ?_;refine le_of ?_ ?_
        ·repeat (first | exact SubE.nil | refine SubE.cons rfl (by first | rfl | (rw [wrap64 (by omega) (by omega)]; rfl) | (exact congrArg bv hx6)) ?_)
        ·repeat (first | exact SubH.nil | refine SubH.cons rfl (by first | rfl | (rw [wrap64 (by omega) (by omega)]; rfl) | (exact congrArg bv hx6)) ?_)
      ·skip
       refine tQ ?_;refine Tri.cond rfl (fun h7 => ?_) (fun h7 => ?_)
       ·skip
        rw [if_pos (of_decide_eq_true h7)];refine Y33 ?_;refine Y22 ?_;refine s_call (match_c bs m n H t v a hv (by omega) q.2 y (by omega)) ?_;refine Y12 ?_;exact Tri.ret ⟨.inr rfl, ret1 rfl resV_cell (VImp.refl _), zO⟩
       ·skip
        rw [if_neg (of_decide_eq_false h7)];refine Y10 ?_;refine Tri.cond rfl (fun h8 => ?_) (fun h8 => ?_)
        ·skip
         rw [if_pos (eq_of_beq h8)]
         obtain ⟨x, hx⟩ : ∃ x, x = askMk bs m t v a q.2 y := ⟨_, rfl⟩
         have hbx : Bd x.2.1 x.2.2 (k - 1898) := hx ▸ Bd.mono (inferInstance : Bd (askMk bs m t v a q.2 y).2.1 (askMk bs m t v a q.2 y).2.2 (k - 2000 + 102)) (by omega)
         have hlx : Lt x.2.2 n := hx ▸ hly.dn (inferInstance : Dn (askMk bs m t v a q.2 y).2.2 y)
         rw [← hx];refine Y33 ?_;refine Y22 ?_;refine s_call (ask_c bs m n H t v a hv0 (by omega) q.2 y (by omega)) ?_;refine Y51 ?_;refine s_alloc SS 13 ?_;refine yS ?_;refine yA ?_;refine e_seqN [13] ?_;rw [← hx];refine Y1 ?_;refine Y0 ?_;refine Tri.cond rfl (fun h9 => ?_) (fun h9 => ?_)
         ·skip
          rw [if_pos h9];refine Y60 ?_;exact Tri.ret ⟨.inr rfl, ret1 rfl resV_cell (VImp.refl _), zO⟩
         ·skip
          rw [if_neg (by rw [h9]; decide)]
          obtain ⟨s9, hs9⟩ : ∃ s9, s9 = x.2.1 := ⟨_, rfl⟩
          obtain ⟨l9, hl9⟩ : ∃ l9, l9 = x.2.2 := ⟨_, rfl⟩
          have hb9 : Bd s9 l9 (k - 1000) := hs9 ▸ hl9 ▸ Bd.mono hbx (by omega)
          have hlt9 : Lt l9 n := hl9 ▸ hlx
          rw [← hs9, ← hl9];refine Tri.skip ?_;refine Y33 ?_;refine Y22 ?_;refine s_call (made_c bs m n H t v a hv (by omega) s9 l9 (by omega)) ?_;refine Y12 ?_;exact Tri.ret ⟨.inr rfl, ret1 rfl resV_cell (VImp.refl _), zO⟩
        ·skip
         have g8 : ¬ q.1 = 6 := by simpa using h8
         rw [if_neg g8];refine Y10 ?_;refine Tri.cond rfl (fun h10 => ?_) (fun h10 => ?_)
         ·skip
          rw [if_pos (eq_of_beq h10)];refine Y33 ?_;refine Y22 ?_;refine s_call (handle_c bs m n H t v a hv (by omega) q.2 y (by omega)) ?_;refine Y12 ?_;exact Tri.ret ⟨.inr rfl, ret1 rfl resV_cell (VImp.refl _), zO⟩
         ·skip
          have g10 : ¬ q.1 = 7 := by simpa using h10
          rw [if_neg g10]
          obtain ⟨s9, hs9⟩ : ∃ s9, s9 = q.2 := ⟨_, rfl⟩
          obtain ⟨l9, hl9⟩ : ∃ l9, l9 = y := ⟨_, rfl⟩
          have hb9 : Bd s9 l9 (k - 1000) := hs9 ▸ hl9 ▸ Bd.mono hbq (by omega)
          have hlt9 : Lt l9 n := hl9 ▸ hly
          rw [← hs9, ← hl9];refine Tri.skip ?_;refine Y33 ?_;refine Y22 ?_;refine s_call (made_c bs m n H t v a hv (by omega) s9 l9 (by omega)) ?_;refine Y12 ?_;exact Tri.ret ⟨.inr rfl, ret1 rfl resV_cell (VImp.refl _), zO⟩
theorem term_c : ∀ n : Nat, TermC bs (termMk bs n) n
 | 0 => term0_c bs
 | n + 1 => termS_c bs n (term_c n)
def typedM (size : Nat) (t : TT) (a : List AB) (s : Sd) : Tm × Sd := (((termMk bs size).f t [] a s size).1, ((termMk bs size).f t [] a s size).2.1)
theorem typed_c (size : Nat) (hs : size ≤ 30) (t : TT) (a : List AB) (ha : a.length ≤ 3) (s : Sd) (h0 : 0 ≤ s.a ∧ s.a ≤ 1000000) :
  HCall Tryz.prog gL 27 [.ptr 950 [] 171, .pu (tyc t.ty), iv .i64 size, .pu (.sl 0 28 (sumsP a))] [] (stO bs s) (.pu (tmc 0 (typedM bs size t a s).1)) (stO bs (typedM bs size t a s).2) [] := by
 have hbd : Bd s size 0 := ⟨by omega⟩
 have hlt : Lt (size : Int) size := ⟨Int.le_refl _⟩
 refine HCall.of_triD tbl 18 [950] Tryz.func27 rfl rfl rfl fun w0 M ρ0 D0 => ?_
 simp only [typedM]
 refine yR ?_;refine s_box SS 5 ?_;refine s_alloc SS 8 ?_;refine e_seqN [5, 8] ?_;refine Y32 ?_;refine yP ?_;refine s_box SS 951 ?_;refine yA ?_;refine e_seqN [951] ?_;refine Y33 ?_;refine yM ?_;refine s_call (term_c bs size t [] a s size 0 ⟨by simp; omega, by simp⟩ (by omega) (by omega)) ?_;refine Y12 ?_;exact Tri.ret ⟨.inr rfl, ret1 rfl resV_cell (VImp.refl _), zO⟩
theorem of_c (cs : List Int) (hl : cs.length < 9223372036854775808) : HCall Tryz.prog gL 26 [.pu (.sl 0 5 (byP cs))] [] [] (.ptr 950 [] 171) (stO (cs.take 300) ⟨0, 88172645463325252⟩) [950] := by
 have hbl := by_len cs
 have hmin : (if (300 : Int) < ((byP cs).length : Int) then 300 else ((byP cs).length : Int)) = ((min cs.length 300 : Nat) : Int) := by split <;> omega
 have htk : (byP cs).take (min cs.length 300) = byP (cs.take 300) := by
  unfold byP
  rw [← List.map_take]
  congr 1
  by_cases h : cs.length ≤ 300
  ·rw [Nat.min_eq_left h, List.take_of_length_le (Nat.le_refl _), List.take_of_length_le h]
  ·rw [Nat.min_eq_right (by omega)]
 refine HCall.of_triD tbl 11 [] Tryz.func26 rfl rfl rfl fun w0 M ρ0 D0 => ?_
 refine Y21 ?_;refine Y32 ?_;refine yC ?_;refine s_val (v_minD) ?_;rw [hmin];refine s_val (v_sliceTo SS (ps := byP cs) (r := min cs.length 300) (by omega)) ?_;rw [htk];refine s_callO (cloneB_c (byP (cs.take 300)) (by rw [by_len]; simp; omega)) ?_;refine yP ?_;refine s_box SS 950 ?_;refine yA ?_;refine e_seqN [950] ?_;refine tQ ?_;exact Tri.ret ⟨.inr rfl, ret1 rfl resV_tmp (VImp.refl _), zO⟩
end Go.Proofs.YtkcgkignhpepkaaGreatDoor

/- Terms that need have no type: the spec, costs; patterns. -/
namespace Go.Proofs.YtkcgkignhpepkaaGreatDoor
open Go Hs
variable (bs : List Int)
structure Sk where
 f : Int → Sd → Int → Tm × Sd × Int
class Sc (m : Sk) : Prop where
 h : ∀ d s l k, Bd s l k → Bd (m.f d s l).2.1 (m.f d s l).2.2 (k + 100)
 le : ∀ d s l, (m.f d s l).2.2 ≤ l
variable (m : Sk) [hm : Sc m]
end Go.Proofs.YtkcgkignhpepkaaGreatDoor

/- Terms that need have no type: patterns. -/
namespace Go.Proofs.YtkcgkignhpepkaaGreatDoor
open Go Hs
section
variable (bs : List Int)
end
section
variable {G : List (Nat × TypeId × Pu)}
end
section
variable (bs : List Int)
end
variable (bs : List Int) [hz : Bz bs]
end Go.Proofs.YtkcgkignhpepkaaGreatDoor

/- Terms that need have no type: the walk. -/
namespace Go.Proofs.YtkcgkignhpepkaaGreatDoor
open Go Hs
variable (bs : List Int) [hz : Bz bs] (m : Sk) [hm : Sc m] (n : Nat)
end Go.Proofs.YtkcgkignhpepkaaGreatDoor

/- How large the terms are that are made. -/
namespace Go.Proofs.YtkcgkignhpepkaaGreatDoor
open Go Hs
class Zs (t : Tm) (c : outParam Int) : Prop where
 h : (tsize t : Int) ≤ c
class ZL (t : List Tm) (c : outParam Int) : Prop where
 h : (tsizeL t : Int) ≤ c
class ZC (t : List Cs) (c : outParam Int) : Prop where
 h : (csizeL t : Int) ≤ c
class ZP (p : Pat) (c : outParam Int) : Prop where
 h : (psize p : Int) ≤ c
theorem Zs.mono {t : Tm} {c c' : Int} (h : Zs t c) (hc : c ≤ c') : (tsize t : Int) ≤ c' := Int.le_trans h.h hc
instance : ZL [] 0 := ⟨by simp [tsizeL]⟩
instance (t : Tm) (ks : List Tm) (c d : Int) [h : Zs t c] [k : ZL ks d] : ZL (t :: ks) (c + d) := ⟨by have := h.h; have := k.h; simp only [tsizeL]; omega⟩
instance : ZC [] 0 := ⟨by simp [csizeL]⟩
instance (p : Pat) (t : Tm) (ks : List Cs) (b c d : Int) [g : ZP p b] [h : Zs t c] [k : ZC ks d] : ZC (.mk p t :: ks) (b + c + d) := ⟨by have := g.h; have := h.h; have := k.h; simp only [csizeL, csize]; omega⟩
instance : ZP anyM 1 := ⟨by simp [anyM, psize, psizeL]⟩
instance (n : Int) : ZP (pnM n) 1 := ⟨by simp [pnM, psize, psizeL]⟩
instance (r : List Int) (n : Int) : ZP (pcM r n []) 1 := ⟨by simp [pcM, psize, psizeL]⟩
instance (r : List Int) (n : Int) (p : Pat) (c : Int) [h : ZP p c] : ZP (pcM r n [p]) (1 + c) := ⟨by have := h.h; simp only [pcM, psize, psizeL]; omega⟩
instance (r : List Int) (n : Int) (p q : Pat) (c d : Int) [h : ZP p c] [k : ZP q d] : ZP (pcM r n [p, q]) (1 + c + d) := ⟨by have := h.h; have := k.h; simp only [pcM, psize, psizeL]; omega⟩
instance (n : Int) : Zs (vaM n) 1 := ⟨by simp [vaM, tsize, tsizeL, csizeL]⟩
instance (n : Int) : Zs (nuM n) 1 := ⟨by simp [nuM, tsize, tsizeL, csizeL]⟩
instance (r : List Int) : Zs (deM r) 1 := ⟨by simp [deM, tsize, tsizeL, csizeL]⟩
instance : Zs zeroM 1 := ⟨by simp [zeroM, tsize, tsizeL, csizeL]⟩
instance (t : Tm) (c : Int) [h : Zs t c] : Zs (laM t) (1 + c) := ⟨by have := h.h; simp only [laM, tsize, tsizeL, csizeL]; omega⟩
instance (s t : Tm) (c d : Int) [h : Zs s c] [k : Zs t d] : Zs (apM s t) (1 + c + d) := ⟨by have := h.h; have := k.h; simp only [apM, tsize, tsizeL, csizeL]; omega⟩
instance (s t : Tm) (c d : Int) [h : Zs s c] [k : Zs t d] : Zs (leM s t) (1 + c + d) := ⟨by have := h.h; have := k.h; simp only [leM, tsize, tsizeL, csizeL]; omega⟩
instance (n : Int) (s t : Tm) (c d : Int) [h : Zs s c] [k : Zs t d] : Zs (prM n s t) (1 + c + d) := ⟨by have := h.h; have := k.h; simp only [prM, tsize, tsizeL, csizeL]; omega⟩
instance (r : List Int) (n : Int) (t : Tm) (c : Int) [h : Zs t c] : Zs (doT r n t) (1 + c) := ⟨by have := h.h; simp only [doT, tsize, tsizeL, csizeL]; omega⟩
instance (r : List Int) (n : Int) (ks : List Tm) (c : Int) [h : ZL ks c] : Zs (coM r n ks) (1 + c) := ⟨by have := h.h; simp only [coM, tsize, csizeL]; omega⟩
instance (t : Tm) (cs : List Cs) (c d : Int) [h : Zs t c] [k : ZC cs d] : Zs (maM t cs) (1 + c + d) := ⟨by have := h.h; have := k.h; simp only [maM, tsize, tsizeL]; omega⟩
variable (bs : List Int)
theorem kn_all (v : List Ty) (t : Ty) (i : Nat) : ∀ x ∈ knM v t i, ∃ j : Nat, j < v.length ∧ x = vaM ((v.length : Int) - 1 - j) := by
 intro x hx
 unfold knM at hx
 rw [List.mem_filterMap] at hx
 obtain ⟨j, _, hj⟩ := hx
 split at hj
 ·rename_i u hu
  split at hj
  ·simp at hj
   exact ⟨j, (List.getElem?_eq_some_iff.1 hu).1, hj.symm⟩
  ·cases hj
 ·cases hj
theorem held_var {v : List Ty} {t : Ty} {s : Sd} (h : (heldM bs v t s).1.2 = true) : ∃ j : Nat, j < v.length ∧ (heldM bs v t s).1.1 = vaM ((v.length : Int) - 1 - j) := by
 unfold heldM at h ⊢
 split at h
 ·cases h
 ·rename_i hl
  rw [if_neg hl]
  have hb := less_b bs s (n := ((knM v t v.length).length : Int)) (by omega)
  have hlt : (lessM bs (knM v t v.length).length s).1.toNat < (knM v t v.length).length := by omega
  have := kn_all v t v.length ((knM v t v.length)[(lessM bs (knM v t v.length).length s).1.toNat]'hlt) (List.getElem_mem _)
  simp only [List.getD_eq_getElem?_getD, List.getElem?_eq_getElem hlt, Option.getD_some]
  exact this
theorem held_z (v : List Ty) (t : Ty) (s : Sd) (h : (heldM bs v t s).1.2 = true) : (tsize (heldM bs v t s).1.1 : Int) ≤ 1 := by
 obtain ⟨j, _, e⟩ := held_var bs h
 rw [e]
 simp [vaM, tsize, tsizeL, csizeL]
theorem keep_z (v : List Ty) (t : Ty) (base : Sd → Tm × Sd) (c : Int) (hc : 1 ≤ c) (hb : ∀ s, (tsize (base s).1 : Int) ≤ c) (s : Sd) : (tsize (keepM bs v t base s).1 : Int) ≤ c := by
 unfold keepM
 split
 ·rename_i h
  split
  ·have := held_z bs v t s h; simp only; omega
  ·exact hb _
 ·exact hb _
theorem base0_z (x : BT) (s : Sd) : (tsize (base0M bs x s).1 : Int) ≤ 1 := by
 cases x <;> simp [base0M, nuM, coM, tsize, tsizeL, csizeL]
theorem leaf0_z (x : BT) (v : List Ty) (s : Sd) : (tsize (leaf0M bs x v s).1 : Int) ≤ 1 := keep_z bs v _ _ 1 (by omega) (base0_z bs x) s
instance (x : BT) (v : List Ty) (s : Sd) : Zs (leaf0M bs x v s).1 1 := ⟨leaf0_z bs x v s⟩
theorem leaf_z (t : TT) (v : List Ty) (s : Sd) : (tsize (leafM bs t v s).1 : Int) ≤ 3 := by
 refine keep_z bs v _ _ 3 (by omega) (fun s => ?_) s
 cases t with
 | ba x => have := base0_z bs x s; simp only [base1M]; omega
 | li x => exact Zs.mono (inferInstance : Zs (coM (sumR 2) 0 []) _) (by omega)
 | op x => exact Zs.mono (inferInstance : Zs (coM (sumR 4) 0 []) _) (by omega)
 | pa x y => simp only [base1M]; (refine Zs.mono inferInstance ?_; (try dsimp only); omega)
 | fn x => simp only [base1M]; (refine Zs.mono inferInstance ?_; (try dsimp only); omega)
class Mz (m : Mk) : Prop where
 h : ∀ t v a s l, (tsize (m.f t v a s l).1 : Int) ≤ 100 + 2000 * max l 0 - 2000 * max (m.f t v a s l).2.2 0
variable (m : Mk) [hm : Mz m]
instance (t : TT) (v : List Ty) (a : List AB) (s : Sd) (l : Int) : Zs (m.f t v a s l).1 (100 + 2000 * max l 0 - 2000 * max (m.f t v a s l).2.2 0) := ⟨hm.h t v a s l⟩
theorem made_z (t : TT) (v : List Ty) (a : List AB) (s : Sd) (l : Int) : (tsize (madeM bs m t v a s l).1 : Int) ≤ 210 + 2000 * max l 0 - 2000 * max (madeM bs m t v a s l).2.2 0 := by
 cases t with
 | ba x =>
  cases x <;> simp only [madeM] <;> repeat' split
  all_goals (refine Zs.mono inferInstance ?_; (try dsimp only); omega)
 | li x => simp only [madeM]; split <;> (refine Zs.mono inferInstance ?_; (try dsimp only); omega)
 | op x => simp only [madeM]; split <;> (refine Zs.mono inferInstance ?_; (try dsimp only); omega)
 | pa x y => simp only [madeM]; (refine Zs.mono inferInstance ?_; (try dsimp only); omega)
 | fn x => simp only [madeM]; (refine Zs.mono inferInstance ?_; (try dsimp only); omega)
instance (t : TT) (v : List Ty) (a : List AB) (s : Sd) (l : Int) : Zs (madeM bs m t v a s l).1 (210 + 2000 * max l 0 - 2000 * max (madeM bs m t v a s l).2.2 0) := ⟨made_z bs m t v a s l⟩
theorem ask_z (t : TT) (v : List Ty) (a : List AB) (s : Sd) (l : Int) : (tsize (askMk bs m t v a s l).1.1 : Int) ≤ 110 + 2000 * max l 0 - 2000 * max (askMk bs m t v a s l).2.2 0 := by
 simp only [askMk]
 repeat' split
 all_goals (refine Zs.mono inferInstance ?_; (try dsimp only); omega)
theorem match_z (t : TT) (v : List Ty) (a : List AB) (s : Sd) (l : Int) : (tsize (matchMk bs m t v a s l).1 : Int) ≤ 420 + 2000 * max l 0 - 2000 * max (matchMk bs m t v a s l).2.2 0 := by
 simp only [matchMk]
 repeat' split
 all_goals (refine Zs.mono inferInstance ?_; (try dsimp only); omega)
theorem clause_z [hml : Ml m] (t : TT) (v : List Ty) (a : List AB) (b : BT) (s : Sd) (l : Int) : (tsize (clauseM bs m t v a b s l).1 : Int) ≤ 310 + 2000 * max l 0 - 2000 * max (clauseM bs m t v a b s l).2.2 0 := by
 have h1 := hml.h t (v ++ [natY, lostY]) a s l
 simp only [clauseM]
 repeat' split
 all_goals (refine Zs.mono inferInstance ?_; (try dsimp only); omega)
theorem clauses_z [hml : Ml m] (t : TT) (v : List Ty) (a : List AB) (b : BT) (s : Sd) (l : Int) : ∀ i : Nat, (tsizeL (clausesM bs m t v a b s l i).1 : Int) ≤ 310 * i + 2000 * max l 0 - 2000 * max (clausesM bs m t v a b s l i).2.2 0
 | 0 => by simp [clausesM, tsizeL]
 | i + 1 => by
  have h1 := clauses_z t v a b s l i
  have h2 := clause_z bs m t v a b (clausesM bs m t v a b s l i).2.1 (clausesM bs m t v a b s l i).2.2
  have h3 (x y : List Tm) : tsizeL (x ++ y) = tsizeL x + tsizeL y := by
   induction x with
   | nil => simp [tsizeL]
   | cons z x ih => simp only [List.cons_append, tsizeL, ih]; omega
  simp only [clausesM, h3, tsizeL]
  push_cast
  omega
theorem handle_z [hml : Ml m] (t : TT) (v : List Ty) (a : List AB) (s : Sd) (l : Int) : (tsize (handleMk bs m t v a s l).1 : Int) ≤ 900 + 2000 * max l 0 - 2000 * max (handleMk bs m t v a s l).2.2 0 := by
 simp only [handleMk]
 split
 ·(refine Zs.mono inferInstance ?_; (try dsimp only); omega)
 ·generalize (if abM (lessM bs 3 s).1 ∈ a then a else a ++ [abM (lessM bs 3 s).1]) = a'
  generalize (if abM (lessM bs 3 s).1 = .fl then BT.b else .n) = b'
  have hn : ((if abM (lessM bs 3 s).1 = .st then 2 else 1 : Nat) : Int) ≤ 2 := by split <;> simp
  generalize (if abM (lessM bs 3 s).1 = .st then 2 else 1 : Nat) = i at hn
  generalize hu : plain0M bs (seldomM bs 4 (lessM bs 3 s).2).2 = u
  have h1 := hm.h (.ba u.1) v a' u.2 l
  generalize m.f (.ba u.1) v a' u.2 l = e at h1
  have h2 := hm.h t (v ++ [u.1.ty]) a e.2.1 e.2.2
  generalize m.f t (v ++ [u.1.ty]) a e.2.1 e.2.2 = g at h2
  have h3 := clauses_z bs m t v a b' g.2.1 g.2.2 i
  simp only [haM, tsize, tsizeL, csizeL]
  push_cast
  omega
theorem node_z [hml : Ml m] (t : TT) (v : List Ty) (a : List AB) (s : Sd) (l : Int) : (tsize (nodeM bs m t v a s l).1 : Int) ≤ 1000 + 2000 * max l 0 - 2000 * max (nodeM bs m t v a s l).2.2 0 := by
 have hdn := (inferInstance : Dn (askMk bs m t v a (lessM bs 10 s).2 l).2.2 l).h
 simp only [nodeM]
 split
 ·split
  ·rename_i h
   have := held_z bs v t.ty (lessM bs 10 s).2 h
   dsimp only
   omega
  ·(refine Zs.mono inferInstance ?_; (try dsimp only); omega)
 split
 ·(refine Zs.mono inferInstance ?_; (try dsimp only); omega)
 split
 ·(refine Zs.mono inferInstance ?_; (try dsimp only); omega)
 split
 ·have := match_z bs m t v a (lessM bs 10 s).2 l; omega
 split
 ·split
  ·have := ask_z bs m t v a (lessM bs 10 s).2 l
   dsimp only
   omega
  ·(refine Zs.mono inferInstance ?_; (try dsimp only); omega)
 split
 ·have := handle_z bs m t v a (lessM bs 10 s).2 l; omega
 ·(refine Zs.mono inferInstance ?_; (try dsimp only); omega)
instance term_mz : ∀ n : Nat, Mz (termMk bs n)
 | 0 => ⟨fun t v a s l => by
  have := leaf_z bs t v s
  simp only [termMk]
  omega⟩
 | n + 1 => ⟨fun t v a s l => by
  have ih := term_mz n
  simp only [termMk]
  split
  ·have := leaf_z bs t v s
   dsimp only
   omega
  ·have := node_z bs (termMk bs n) t v a s (l - 1)
   omega⟩
theorem typed_z (size : Nat) (hs : size ≤ 30) (t : TT) (a : List AB) (s : Sd) : tsize (typedM bs size t a s).1 ≤ 70000 := by
 have := (term_mz bs size).h t [] a s size
 simp only [typedM]
 omega
class Kz (m : Sk) : Prop where
 h : ∀ d s l, (tsize (m.f d s l).1 : Int) ≤ 100 + 2000 * max l 0 - 2000 * max (m.f d s l).2.2 0
variable (k : Sk) [hk : Kz k] [hc : Sc k]
end Go.Proofs.YtkcgkignhpepkaaGreatDoor

/- The terms that are made are right. -/
namespace Go.Proofs.YtkcgkignhpepkaaGreatDoor
open Go Hs
class Nb (n : Int) : Prop where
 h : 0 ≤ n ∧ n ≤ 7
instance : Nb 0 := ⟨by omega⟩
instance : Nb 1 := ⟨by omega⟩
instance (bs : List Int) (s : Sd) : Nb (lessM bs 2 s).1 := ⟨by have := less_b bs s (n := 2) (by decide); omega⟩
instance (bs : List Int) (s : Sd) : Nb (lessM bs 3 s).1 := ⟨by have := less_b bs s (n := 3) (by decide); omega⟩
class Okq (p : Pat) (e : outParam Int) : Prop where
 h : perr p = 0
 b : bindsM p = e
class Okt (d : Int) (t : Tm) : Prop where
 gd : gdT d t
 lc : lcT t
class OkL (d : Int) (ks : List Tm) : Prop where
 h : ∀ x ∈ ks, Okt d x
class OkC (d : Int) (cs : List Cs) : Prop where
 gd : gdC d cs
 lc : lcC cs
theorem gdK_plain {d k : Int} (hk : ∀ i : Nat, moreM k i = 0) : ∀ {ks : List Tm} {i : Nat}, (∀ x ∈ ks, Okt d x) → gdK d k i ks
 | [], _, _ => trivial
 | t :: ts, i, h => ⟨by rw [hk, Int.add_zero]; exact (h t (by simp)).gd, gdK_plain hk fun x hx => h x (by simp [hx])⟩
theorem lcK_all {d : Int} : ∀ {ks : List Tm}, (∀ x ∈ ks, Okt d x) → lcK ks
 | [], _ => trivial
 | t :: ts, h => ⟨(h t (by simp)).lc, lcK_all fun x hx => h x (by simp [hx])⟩
instance (d : Int) : OkL d [] := ⟨by simp⟩
instance (d : Int) (t : Tm) (ks : List Tm) [h : Okt d t] [k : OkL d ks] : OkL d (t :: ks) := ⟨fun x hx => by
 rcases List.mem_cons.1 hx with rfl | hx
 ·exact h
 ·exact k.h x hx⟩
instance (d : Int) : OkC d [] := ⟨trivial, trivial⟩
instance (d : Int) (p : Pat) (e : Int) (t : Tm) (cs : List Cs) [hp : Okq p e] [h : Okt (d + e) t] [k : OkC d cs] : OkC d (.mk p t :: cs) := ⟨⟨⟨hp.h, hp.b ▸ h.gd⟩, k.gd⟩, h.lc, k.lc⟩
theorem ok_va {d n : Int} (h : 0 ≤ n ∧ n < d) : Okt d (vaM n) := ⟨by simp [vaM, gdT, gdK, gdC, kidsM]; omega, by simp [vaM, lcT, lcK, lcC, locM, clashM, offM, hasNumM]⟩
theorem ok_nu {d n : Int} (h : 0 ≤ n ∧ n ≤ 1073741824) : Okt d (nuM n) := ⟨by simp [nuM, gdT, gdK, gdC, kidsM], by simp [nuM, lcT, lcK, lcC, locM, clashM, offM, hasNumM]; omega⟩
instance (d : Int) (r : List Int) : Okt d (deM r) := ⟨by simp [deM, gdT, gdK, gdC, kidsM], by simp [deM, lcT, lcK, lcC, locM, clashM, offM, hasRefM]⟩
instance (d : Int) (t : Tm) [h : Okt (d + 1) t] : Okt d (laM t) := ⟨by simpa [laM, gdT, gdK, gdC, kidsM, moreM] using h.gd, by simpa [laM, lcT, lcK, lcC, locM, clashM, offM] using h.lc⟩
instance (d : Int) (s t : Tm) [h : Okt d s] [k : Okt d t] : Okt d (apM s t) := ⟨by simpa [apM, gdT, gdK, gdC, kidsM, moreM] using ⟨h.gd, k.gd⟩, by simpa [apM, lcT, lcK, lcC, locM, clashM, offM] using ⟨h.lc, k.lc⟩⟩
instance (d : Int) (s t : Tm) [h : Okt d s] [k : Okt (d + 1) t] : Okt d (leM s t) := ⟨by simpa [leM, gdT, gdK, gdC, kidsM, moreM] using ⟨h.gd, k.gd⟩, by simpa [leM, lcT, lcK, lcC, locM, clashM, offM] using ⟨h.lc, k.lc⟩⟩
theorem ok_pr {d n : Int} {s t : Tm} (hn : 1 ≤ n ∧ n ≤ 5) (h : Okt d s) (k : Okt d t) : Okt d (prM n s t) := ⟨by simpa [prM, gdT, gdK, gdC, kidsM, moreM] using ⟨h.gd, k.gd⟩, by simpa [prM, lcT, lcK, lcC, locM, clashM, offM, hasNumM] using ⟨by omega, h.lc, k.lc⟩⟩
instance (bs : List Int) (s0 : Sd) (d : Int) (s t : Tm) [h : Okt d s] [k : Okt d t] : Okt d (prM (fromM bs 1 5 s0).1 s t) := ok_pr (from_b bs s0 (by decide)) h k
instance (bs : List Int) (s : Sd) (d : Int) : Okt d (nuM (lessM bs 4 s).1) := ok_nu (by have := less_b bs s (n := 4) (by decide); omega)
instance (bs : List Int) (s : Sd) (d : Int) : Okt d (nuM ([0, 1, 2, 3, 7, 1073741824].getD (lessM bs 6 s).1.toNat 0)) := ok_nu (by
 have := less_b bs s (n := 6) (by decide)
 generalize (lessM bs 6 s).1 = z at this
 obtain ⟨j, rfl⟩ := Int.eq_ofNat_of_zero_le this.1
 have hj : j < 6 := by omega
 rcases j with _ | _ | _ | _ | _ | _ | j <;> first | decide | omega)
instance (d : Int) (r : List Int) (n : Int) (t : Tm) [hn : Nb n] [h : Okt d t] : Okt d (doT r n t) := ⟨by have := hn.h; simp [doT, gdT, gdK, gdC, kidsM, moreM]; exact ⟨by omega, h.gd⟩, by have := hn.h; simp [doT, lcT, lcK, lcC, locM, clashM, offM, hasNumM, hasRefM]; exact ⟨by omega, h.lc⟩⟩
theorem ok_co {d : Int} {r : List Int} {n : Int} {ks : List Tm} (hn : 0 ≤ n ∧ n ≤ 7) (hl : ks.length ≤ 4) (h : ∀ x ∈ ks, Okt d x) : Okt d (coM r n ks) :=
 ⟨⟨by omega, by simp [kidsM]; omega, by simp, by simp, gdK_plain (fun i => by simp [moreM]) h, trivial⟩, ⟨by simp [locM, clashM, offM, hasNumM, hasRefM]; omega, lcK_all h, trivial⟩⟩
instance (d : Int) (r : List Int) (n : Int) [hn : Nb n] : Okt d (coM r n []) := ok_co hn.h (by simp) (by simp)
instance (d : Int) (r : List Int) (n : Int) (s : Tm) [hn : Nb n] [h : Okt d s] : Okt d (coM r n [s]) := ok_co hn.h (by simp) (OkL.h (ks := [s]))
instance (d : Int) (r : List Int) (n : Int) (s t : Tm) [hn : Nb n] [h : Okt d s] [k : Okt d t] : Okt d (coM r n [s, t]) := ok_co hn.h (by simp) (OkL.h (ks := [s, t]))
theorem gdK_two {d : Int} : ∀ {ks : List Tm} {i : Nat}, 2 ≤ i → (∀ x ∈ ks, Okt (d + 2) x) → gdK d 12 i ks
 | [], _, _, _ => trivial
 | t :: ts, i, hi, h => ⟨by rw [show moreM 12 i = 2 by simp [moreM]; omega]; exact (h t (by simp)).gd, gdK_two (by omega) fun x hx => h x (by simp [hx])⟩
theorem ok_ha {d : Int} {r : List Int} {s t : Tm} {ks : List Tm} (hl : ks.length ≤ 8) (hs : Okt d s) (ht : Okt (d + 1) t) (h : ∀ x ∈ ks, Okt (d + 2) x) : Okt d (haM r (s :: t :: ks)) :=
 ⟨⟨by omega, by simp [kidsM, offM]; omega, by simp, by simp, ⟨by rw [show moreM 12 (0 : Nat) = 0 by simp [moreM], Int.add_zero]; exact hs.gd, by rw [show moreM 12 ((0 + 1 : Nat) : Int) = 1 by simp [moreM]]; exact ht.gd, gdK_two (by omega) h⟩, trivial⟩, ⟨by simp [locM, clashM, offM, hasRefM], ⟨hs.lc, ht.lc, lcK_all h⟩, trivial⟩⟩
theorem ok_ma {d : Int} {t : Tm} {cs : List Cs} (hl : cs.length ≤ 8) (ht : Okt d t) (h : OkC d cs) : Okt d (maM t cs) :=
 ⟨⟨by omega, by simp [kidsM], by simp, by simp, ⟨by rw [show moreM 9 (0 : Nat) = 0 by simp [moreM], Int.add_zero]; exact ht.gd, trivial⟩, h.gd⟩, ⟨by simp [locM, clashM, offM, hasCasesM]; omega, ⟨ht.lc, trivial⟩, h.lc⟩⟩
instance (d : Int) (t : Tm) (c1 c2 : Cs) [ht : Okt d t] [h : OkC d [c1, c2]] : Okt d (maM t [c1, c2]) := ok_ma (by simp) ht h
instance (d : Int) (t : Tm) (c1 c2 c3 : Cs) [ht : Okt d t] [h : OkC d [c1, c2, c3]] : Okt d (maM t [c1, c2, c3]) := ok_ma (by simp) ht h
instance : Okq anyM 1 := ⟨by simp [anyM, perr, perrL, patErr, offM, clashM], by simp [anyM, bindsM]⟩
instance (n : Int) [h : Nb n] : Okq (pnM n) 0 := ⟨by have := h.h; simp [pnM, perr, perrL, patErr, offM, clashM]; omega, by simp [pnM, bindsM, bindsL]⟩
theorem ok_pc {r : List Int} {n : Int} {ks : List Pat} (hn : 0 ≤ n ∧ n ≤ 7) (hl : ks.length ≤ 4) (h : perrL ks = 0) : perr (pcM r n ks) = 0 := by
 have h2 : patErr 3 n r ks.length = 0 := by simp [patErr, offM, clashM]; omega
 simp only [pcM, perr, if_pos h2, h]
instance (r : List Int) (n : Int) [h : Nb n] : Okq (pcM r n []) 0 := ⟨ok_pc h.h (by simp) rfl, by simp [pcM, bindsM, bindsL]⟩
instance (r : List Int) (n : Int) (p : Pat) (e : Int) [h : Nb n] [hp : Okq p e] : Okq (pcM r n [p]) (e + 0) := ⟨ok_pc h.h (by simp) (by simp [perrL, hp.h]), by simp [pcM, bindsM, bindsL, hp.b]⟩
instance (r : List Int) (n : Int) (p q : Pat) (e f : Int) [h : Nb n] [hp : Okq p e] [hq : Okq q f] : Okq (pcM r n [p, q]) (e + f) := ⟨ok_pc h.h (by simp) (by simp [perrL, hp.h, hq.h]), by simp [pcM, bindsM, bindsL, hp.b, hq.b]⟩
class Ln (v : List Ty) (d : Int) : Prop where
 h : (v.length : Int) = d
instance (v : List Ty) : Ln v v.length := ⟨rfl⟩
theorem Ln.one {v : List Ty} {d : Int} (h : Ln v d) (x : Ty) : Ln (v ++ [x]) (d + 1) := ⟨by have := h.h; simp; omega⟩
theorem Ln.two {v : List Ty} {d : Int} (h : Ln v d) (x y : Ty) : Ln (v ++ [x, y]) (d + 2) := ⟨by have := h.h; simp; omega⟩
instance (v : List Ty) (d : Int) (x : Ty) [h : Ln v d] : Ln (v ++ [x]) (d + 1) := h.one x
instance (v : List Ty) (d : Int) (x y : Ty) [h : Ln v d] : Ln (v ++ [x, y]) (d + 2) := h.two x y
instance (v : List Ty) (d : Int) (x : Ty) [h : Ln v d] : Ln (v ++ [x]) (d + (1 + 0)) := h.one x
instance (v : List Ty) (d : Int) (x y : Ty) [h : Ln v d] : Ln (v ++ [x, y]) (d + (1 + 1)) := h.two x y
instance (v : List Ty) (d : Int) [h : Ln v d] : Ln v (d + 0) := ⟨by have := h.h; omega⟩
class Mo (m : Mk) : Prop where
 h : ∀ t v a s l, Okt v.length (m.f t v a s l).1
variable (bs : List Int) (m : Mk) [hm : Mo m]
instance (t : TT) (v : List Ty) (a : List AB) (s : Sd) (l d : Int) [h : Ln v d] : Okt d (m.f t v a s l).1 := h.h ▸ hm.h t v a s l
theorem held_ok (v : List Ty) (t : Ty) (s : Sd) (h : (heldM bs v t s).1.2 = true) : Okt v.length (heldM bs v t s).1.1 := by
 obtain ⟨j, hj, e⟩ := held_var bs h
 rw [e];exact ok_va (by omega)
theorem keep_ok (v : List Ty) (t : Ty) (base : Sd → Tm × Sd) (hb : ∀ s, Okt v.length (base s).1) (s : Sd) : Okt v.length (keepM bs v t base s).1 := by
 unfold keepM
 split
 ·rename_i h
  split
  ·exact held_ok bs v t s h
  ·exact hb _
 ·exact hb _
theorem base0_ok (d : Int) (x : BT) (s : Sd) : Okt d (base0M bs x s).1 := by
 cases x
 ·exact (inferInstance : Okt d (nuM (lessM bs 4 s).1))
 ·exact (inferInstance : Okt d (coM (sumR 1) (lessM bs 2 s).1 []))
theorem leaf0_ok (x : BT) (v : List Ty) (s : Sd) : Okt v.length (leaf0M bs x v s).1 := keep_ok bs v _ _ (base0_ok bs _ x) s
instance (x : BT) (v : List Ty) (s : Sd) (d : Int) [h : Ln v d] : Okt d (leaf0M bs x v s).1 := h.h ▸ leaf0_ok bs x v s
theorem leaf_ok (t : TT) (v : List Ty) (s : Sd) : Okt v.length (leafM bs t v s).1 := by
 refine keep_ok bs v _ _ (fun s => ?_) s
 cases t with
 | ba x => exact base0_ok bs _ x s
 | li x => exact (inferInstance : Okt _ (coM (sumR 2) 0 []))
 | op x => exact (inferInstance : Okt _ (coM (sumR 4) 0 []))
 | pa x y => simp only [base1M]; infer_instance
 | fn x => simp only [base1M]; infer_instance
theorem made_ok (t : TT) (v : List Ty) (a : List AB) (s : Sd) (l : Int) : Okt v.length (madeM bs m t v a s l).1 := by
 cases t with
 | ba x =>
  cases x <;> simp only [madeM] <;> repeat' split
  all_goals infer_instance
 | li x => simp only [madeM]; split <;> infer_instance
 | op x => simp only [madeM]; split <;> infer_instance
 | pa x y => simp only [madeM]; infer_instance
 | fn x => simp only [madeM]; infer_instance
theorem ask_ok (t : TT) (v : List Ty) (a : List AB) (s : Sd) (l : Int) (h : (askMk bs m t v a s l).1.2 = true) : Okt v.length (askMk bs m t v a s l).1.1 := by
 simp only [askMk] at h ⊢
 split at h
 ·cases h
 rename_i h0
 rw [if_neg h0]
 split at h
 ·rename_i h1
  rw [if_pos h1]
  split <;> infer_instance
 ·cases h
theorem match_ok (t : TT) (v : List Ty) (a : List AB) (s : Sd) (l : Int) : Okt v.length (matchMk bs m t v a s l).1 := by
 simp only [matchMk]
 repeat' split
 all_goals infer_instance
theorem clause_ok (t : TT) (v : List Ty) (a : List AB) (b : BT) (s : Sd) (l d : Int) [h : Ln v d] : Okt (d + 2) (clauseM bs m t v a b s l).1 := by
 have hv : Okt (d + 2) (vaM 0) := ok_va (by have := h.h; omega)
 simp only [clauseM]
 repeat' split
 all_goals infer_instance
theorem clauses_ok (t : TT) (v : List Ty) (a : List AB) (b : BT) (s : Sd) (l d : Int) [h : Ln v d] : ∀ i : Nat, ∀ x ∈ (clausesM bs m t v a b s l i).1, Okt (d + 2) x
 | 0, x, hx => by simp [clausesM] at hx
 | i + 1, x, hx => by
  simp only [clausesM, List.mem_append, List.mem_singleton] at hx
  rcases hx with hx | rfl
  ·exact clauses_ok t v a b s l d i x hx
  ·exact clause_ok bs m t v a b _ _ d
theorem clauses_len2 (m : Mk) (t : TT) (v : List Ty) (a : List AB) (back : BT) (s : Sd) (l : Int) : ∀ i, (clausesM bs m t v a back s l i).1.length ≤ i
 | 0 => by simp [clausesM]
 | i + 1 => by
  have := clauses_len2 m t v a back s l i
  simp [clausesM]; omega
theorem handle_ok (t : TT) (v : List Ty) (a : List AB) (s : Sd) (l : Int) : Okt v.length (handleMk bs m t v a s l).1 := by
 simp only [handleMk]
 split
 ·exact made_ok bs m t v a _ _
 ·refine ok_ha ?_ inferInstance inferInstance (clauses_ok bs m t v a _ _ _ _ _)
  refine Nat.le_trans (clauses_len2 bs m t v a _ _ _ _) ?_
  split <;> omega
theorem node_ok (t : TT) (v : List Ty) (a : List AB) (s : Sd) (l : Int) : Okt v.length (nodeM bs m t v a s l).1 := by
 simp only [nodeM]
 split
 ·split
  ·rename_i h; exact held_ok bs v t.ty _ h
  ·exact made_ok bs m t v a _ _
 split
 ·infer_instance
 split
 ·infer_instance
 split
 ·exact match_ok bs m t v a _ _
 split
 ·split
  ·rename_i h; exact ask_ok bs m t v a _ _ h
  ·exact made_ok bs m t v a _ _
 split
 ·exact handle_ok bs m t v a _ _
 ·exact made_ok bs m t v a _ _
instance term_mo : ∀ n : Nat, Mo (termMk bs n)
 | 0 => ⟨fun t v a s l => by simp only [termMk]; exact leaf_ok bs t v s⟩
 | n + 1 => ⟨fun t v a s l => by
  have ih := term_mo n
  simp only [termMk]
  split
  ·exact leaf_ok bs t v s
  ·exact node_ok bs (termMk bs n) t v a s _⟩
theorem typed_ok (size : Nat) (t : TT) (a : List AB) (s : Sd) : Rt (typedM bs size t a s).1 := by
 have := (term_mo bs size).h t [] a s size
 exact ⟨this.gd, this.lc⟩
class Ko (m : Sk) : Prop where
 h : ∀ d s l, 0 ≤ d → Okt d (m.f d s l).1
variable (k : Sk) [hk : Ko k]
end Go.Proofs.YtkcgkignhpepkaaGreatDoor

/- StepCut: the plain law. -/
namespace Go.Proofs.YtkcgkignhpepkaaGreatDoor
open Go Hs
structure Gt (ts : List KT) (t : Tm) : Prop where
 rt : Rt t
 ck : stepCheckM ts t = 0
theorem Gt.size {ts : List KT} {t : Tm} (h : Gt ts t) : tsize t ≤ 300 := (check_sh (stepCheck_ok h.ck).2.2.2).2
theorem ranE_none {ts : List KT} {u : Tm} (hv : valM u = false) (hk : ¬ 7 < kindM ts u (placeM u)) (steps : Nat) : ranE ts steps u = none := by
 unfold ranE
 rw [if_neg (by simp [hv]), if_neg (by omega), if_neg (by omega)]
theorem ranOk {ts : List KT} {t : Tm} {fuel : Int} (hc : stepCheckM ts t = 0) (hf : 0 ≤ fuel ∧ fuel ≤ 2000) (h : (runM ts t fuel).2 = 0) : (ranM ts fuel.toNat 0 t).2 = 0 ∧ (runM ts t fuel).1 = (ranM ts fuel.toNat 0 t).1 := by
 unfold runM at h ⊢
 rw [if_pos hc, if_neg (by omega)] at h ⊢
 split at h
 ·rename_i h0
  refine ⟨h0, ?_⟩
  rw [if_pos h0]
  split at h
  ·rename_i h1; rw [if_pos h1]
  ·rename_i h1
   rw [if_neg h1]
   split at h
   ·rename_i h2; rw [if_pos h2]
   ·simp at h
 ·rename_i h0
  exact absurd h h0
end Go.Proofs.YtkcgkignhpepkaaGreatDoor

/- term.At. -/
namespace Go.Proofs.YtkcgkignhpepkaaGreatDoor
open Go Hs
section
variable {G : List (Nat × TypeId × Pu)}
end
end Go.Proofs.YtkcgkignhpepkaaGreatDoor

/- StepCut: the walk. -/
namespace Go.Proofs.YtkcgkignhpepkaaGreatDoor
open Go Hs
theorem conv_bi {x : Int} (h : 0 ≤ x ∧ x ≤ 255) : convV Tryz.prog 5 3 (iv .u8 x) = some (iv .i64 x) := by
 have hu : Tryz.prog.underlying 5 = some (.int .u8) := by kernel_rfl
 have hi : Tryz.prog.underlying 3 = some (.int .i64) := by kernel_rfl
 unfold convV iv
 simp only [hu, hi, wrap64 (n := x) (by omega) (by omega)]
theorem tooMuch_c {G : List (Nat × TypeId × Pu)} (e : Int) : FCall Tryz.prog G 36 [iv .i64 e] (bv (e == 11 || e == 12)) := by
 refine FCall.of_tri tbl 9 Tryz.func36 rfl rfl rfl fun w0 M ρ0 D0 => ?_
 refine Y21 ?_;refine Y17 ?_;refine Y24 ?_;refine Y23 ?_;refine Y2 ?_;exact Tri.ret ⟨.inr rfl, ret1 rfl resV_tmp (VImp.refl _)⟩
theorem wsz : ∀ x ∈ worldT, tsize x.2 < 2^40 := by
 intro x hx
 simp only [worldT, List.mem_cons, List.not_mem_nil, or_false] at hx
 rcases hx with rfl | rfl | rfl | rfl <;> decide
theorem world_nil : stepCheckM worldT (nuM 0) = 0 := by kernel_rfl
theorem world_check (t : Tm) : stepCheckM worldT t = checkM t 0 0 := stepCheck_parts world_nil t
theorem world_rt : ∀ x ∈ worldT, Rt x.2 := by
 intro x hx
 have hc := (stepCheck_ok world_nil).2.1 x hx
 refine check_rt hc ?_
 simp only [worldT, List.mem_cons, List.not_mem_nil, or_false] at hx
 rcases hx with rfl | rfl | rfl | rfl <;> simp [laM, prM, vaM, nuM, maM, apM, deM, rgT, rgK, rgC, rgS]
end Go.Proofs.YtkcgkignhpepkaaGreatDoor

/- Rows of bytes as arguments. -/
namespace Go.Proofs.YtkcgkignhpepkaaGreatDoor
open Go Hs
open Go.ChangeShapes Go.WideShapes Go.ChangeAt Go.RowKit
theorem uB : Tryz.prog.underlying 48 = some (.slice 5) := by kernel_rfl
theorem cB : Tryz.prog.cellsOf 5 = 1 := by kernel_rfl
set_option maxRecDepth 100000 in
theorem byte_arg {H : Type} {enc : TypeId × Value → H} {W : World} {base : Nat} {v : Value} {d : DataW H} {p : List MemPlace} (hv : Value.okWide Tryz.prog W .any base 48 v) (h : DataW.Trod enc Tryz.prog W 0 (fun _ => true) true 48 v d p) (hlt : ∀ x ∈ p, x.block < W.heap.size) :
  ∃ l : List Int, (∀ x ∈ l, 0 ≤ x ∧ x ≤ 255) ∧ l.length < 2^63 ∧ valAgg v = false ∧ VR Tryz.prog (cfg0 W) W none (.pu (.sl 0 5 (byP l))) v.cells.toList := by
 obtain ⟨a0, len, cap, rfl⟩ := okWide_slice uB hv
 obtain ⟨fuel, hf⟩ := h
 rcases open_ints uB c_u8 cB hf with ⟨hcs, hx⟩ | ⟨ad, len', cap', zs, hcs, _, hl, hm, hz, hx, hcell, hwz⟩
 ·simp [Value.cells] at hcs
  obtain ⟨rfl, rfl, rfl⟩ := hcs
  exact ⟨[], by simp, by simp, rfl, .pu .sl0⟩
 ·simp [Value.cells] at hcs
  obtain ⟨rfl, rfl, rfl⟩ := hcs
  simp only [Prod.mk.injEq] at hx
  obtain ⟨rfl, rfl⟩ := hx
  simp only [if_true] at hz
  have hll : (zs.take len).length = len := by rw [List.length_take]; omega
  refine ⟨zs.take len, fun x hx => ?_, by rw [hll]; simp only [maxLen] at hm; omega, rfl, .pu ?_⟩
  ·have := hwz x (List.mem_of_mem_take hx)
   simpa [Lit.wf, IntKind.min, IntKind.max, IntKind.signed, IntKind.bits] using this
  ·by_cases h0 : zs.take len = []
   ·rw [h0] at hll
    have : len = 0 := by simpa using hll.symm
    subst this;rw [h0];exact .sl0
   ·have hpos : 0 < zs.length := by
     rcases Nat.eq_zero_or_pos zs.length with h' | h'
     ·rw [List.length_eq_zero_iff] at h'; subst h'; simp at h0
     ·exact h'
    have c0 := hcell 0 hpos
    obtain ⟨bk, off, sp⟩ := ad
    obtain rfl : sp = none := by simpa [Addr.add] using World.cell?_spot c0
    have hbk : bk < W.heap.size := hlt (.cell bk off) (MemPlace.mem_row.2 ⟨0, by omega, by simp⟩)
    have hbl : (byP (zs.take len)).length = len := by rw [by_len, hll]
    have := PR.sl (P := Tryz.prog) (D := (cfg0 W).D) (w := W) (lo := 0) (E := 5) (ps := byP (zs.take len)) (b := bk) (o := off) (cap := cap) (x := (zs.take len).map fun z => Value.int .u8 z) (by simpa [byP] using h0) (by omega)
     (by rw [by_len, cB]; exact prs_ints (zs.take len)) (fun j v hj => by
      rw [List.getElem?_map] at hj
      obtain ⟨z, hz', rfl⟩ := Option.map_eq_some_iff.1 hj
      obtain ⟨hjl, rfl⟩ := List.getElem?_eq_some_iff.1 hz'
      have hj' : j < zs.length := by rw [List.length_take] at hjl; omega
      have hcj := hcell j hj'
      refine ⟨?_, hbk⟩
      rw [List.getElem_take]
      have e : (zs.getD j 0) = zs[j] := by simp [List.getD_eq_getElem?_getD, hj']
      rw [e] at hcj
      cases j with
      | zero => simpa [Addr.add] using hcj
      | succ j => simpa [Addr.add] using hcj) (.inl rfl)
    rw [hbl] at this
    exact this
end Go.Proofs.YtkcgkignhpepkaaGreatDoor

/- A term around another one: the place of work, and a step. -/
namespace Go.Proofs.YtkcgkignhpepkaaGreatDoor
open Go Hs
structure Cx where
 k : Int
 n : Int
 r : List Int
 pre : List Tm
 post : List Tm
 cs : List Cs
def Cx.plug (c : Cx) (x : Tm) : Tm := .mk c.k c.n c.r (c.pre ++ x :: c.post) c.cs
structure Cx.Ok (c : Cx) : Prop where
 pre : ∀ x ∈ c.pre, valM x = true
 many : c.pre.length < manyM c.k (c.pre.length + (c.post.length + 1))
theorem val_plug {c : Cx} (h : c.Ok) {x : Tm} (hx : valM x = false) : valM (c.plug x) = false := by
 have hm := h.many
 have h2 : c.k ≠ 2 := by intro e; simp [manyM, e] at hm
 have h3 : c.k ≠ 3 := by intro e; simp [manyM, e] at hm
 simp [Cx.plug, valM, valL_eq, hx, h2, h3]
theorem placeL_at {many : Nat} {x : Tm} {post : List Tm} (hx : valM x = false) : ∀ (pre : List Tm) (i : Nat), (∀ y ∈ pre, valM y = true) → i + pre.length < many → placeL many i (pre ++ x :: post) = (i + pre.length) :: placeM x
 | [], i, _, hm => by simp at hm; simp [placeL, hx, hm]
 | y :: pre, i, hp, hm => by
  simp only [List.length_cons] at hm
  have := placeL_at (many := many) (post := post) hx pre (i + 1) (fun z hz => hp z (by simp [hz])) (by omega)
  simp only [List.cons_append, placeL, hp y (by simp), if_pos (show i < many by omega), if_true, this]
  rw [List.length_cons, show i + 1 + pre.length = i + (pre.length + 1) by omega]
theorem place_plug {c : Cx} (h : c.Ok) {x : Tm} (hx : valM x = false) : placeM (c.plug x) = c.pre.length :: placeM x := by
 have hm := h.many
 simp only [Cx.plug, placeM]
 rw [placeL_at hx c.pre 0 h.pre (by simpa using hm)]
 simp
theorem kid_plug (c : Cx) (x : Tm) : (c.plug x).kids[c.pre.length]? = some x := by simp [Cx.plug, Tm.kids]
theorem walk_plug (c : Cx) (x : Tm) (p : List Nat) : walkM (c.plug x) (c.pre.length :: p) = walkM x p := by simp only [walkM, kid_plug]
theorem way_plug (c : Cx) (x : Tm) (p : List Nat) : wayM (c.plug x) (c.pre.length :: p) = c.plug x :: wayM x p := by simp only [wayM, kid_plug]
theorem hand_cons (t : Tm) (way : List Tm) (r : List Int) : ∀ n, handM (t :: way) r (n + 1) = if 0 ≤ handM way r n then handM way r n + 1 else if (t.kind == 12 && t.ref == r) = true then 0 else -1
 | 0 => by simp [handM]
 | n + 1 => by
  have ih := hand_cons t way r n
  have h1 : handM (t :: way) r (n + 1 + 1) = (match way[n]? with | some x => if x.kind == 12 && x.ref == r then ((n + 1 : Nat) : Int) else handM (t :: way) r (n + 1) | none => handM (t :: way) r (n + 1)) := rfl
  have h2 : handM way r (n + 1) = (match way[n]? with | some x => if x.kind == 12 && x.ref == r then (n : Int) else handM way r n | none => handM way r n) := rfl
  rw [h1, h2]
  cases way[n]? with
  | none => exact ih
  | some x =>
   simp only
   by_cases hx : (x.kind == 12 && x.ref == r) = true
   ·rw [if_pos hx, if_pos hx, if_pos (by omega)]; omega
   ·rw [if_neg hx, if_neg hx]; exact ih
theorem kind_plug {ts : List KT} (c : Cx) (x : Tm) (p : List Nat) : (kindM ts x p ≠ 9 → kindM ts (c.plug x) (c.pre.length :: p) = kindM ts x p) ∧ (kindM ts x p = 9 → kindM ts (c.plug x) (c.pre.length :: p) = 9 ∨ kindM ts (c.plug x) (c.pre.length :: p) = 6 ∨ kindM ts (c.plug x) (c.pre.length :: p) = 8) := by
 unfold kindM
 rw [walk_plug, way_plug, List.length_cons]
 generalize walkM x p = w
 generalize wayM x p = way
 generalize p.length = len
 obtain ⟨k, n, r, ks, cs⟩ := w
 by_cases hk : k = 11
 ·subst hk
  simp only [kindW, if_neg (show ¬ (11 : Int) = 4 by decide), if_neg (show ¬ (11 : Int) = 5 by decide), if_neg (show ¬ (11 : Int) = 6 by decide), if_neg (show ¬ (11 : Int) = 10 by decide), if_neg (show ¬ (11 : Int) = 9 by decide), if_true]
  rw [hand_cons]
  have hl := (hand_lt way r len).2
  by_cases hh : 0 ≤ handM way r len
  ·have e : (handM way r len + 1).toNat = (handM way r len).toNat + 1 := by omega
   rw [if_pos hh, if_neg (by omega), if_neg (by omega), e, List.getElem?_cons_succ]
   refine ⟨fun _ => rfl, fun h => ?_⟩
   exfalso
   revert h
   cases way[(handM way r len).toNat]? with
   | none => simp
   | some h => simp only; generalize decide ((h.kids.length : Int) > 2 + n) = b; cases b <;> simp
  ·rw [if_neg hh, if_pos (show handM way r len < 0 by omega)]
   refine ⟨fun h => absurd rfl h, fun _ => ?_⟩
   by_cases hp : ((c.plug x).kind == 12 && (c.plug x).ref == r) = true
   ·rw [if_pos hp, if_neg (by decide)]
    split
    ·rename_i h _
     generalize decide ((h.kids.length : Int) > 2 + n) = b
     cases b
     ·exact .inr (.inr rfl)
     ·exact .inr (.inl rfl)
    ·exact .inr (.inr rfl)
   ·rw [if_neg hp, if_pos (by decide)]
    exact .inl rfl
 ·simp only [kindW, if_neg hk]
  refine ⟨fun _ => trivial, fun h => ?_⟩
  exact .inl h
theorem fill_cons1 (t : Tm) (way : List Tm) (j : Nat) (p : List Nat) (lo : Nat) : ∀ (n : Nat) (x : Tm), fillM (t :: way) (j :: p) (lo + 1) (n + 1) x = fillM way p lo n x
 | 0, x => by simp [fillM]
 | n + 1, x => by
  have h1 : fillM (t :: way) (j :: p) (lo + 1) (n + 1 + 1) x = (if n + 1 < lo + 1 then x else match way[n]?, p[n]? with | some t', some k => fillM (t :: way) (j :: p) (lo + 1) (n + 1) (setKid t' k x) | _, _ => x) := rfl
  have h2 : fillM way p lo (n + 1) x = (if n < lo then x else match way[n]?, p[n]? with | some t', some k => fillM way p lo n (setKid t' k x) | _, _ => x) := rfl
  rw [h1, h2]
  by_cases hl : n < lo
  ·rw [if_pos (by omega), if_pos hl]
  ·rw [if_neg (by omega), if_neg hl]
   cases way[n]? with
   | none => rfl
   | some t' =>
    cases p[n]? with
    | none => rfl
    | some k => exact fill_cons1 t way j p lo n _
theorem fill_cons0 (t : Tm) (way : List Tm) (j : Nat) (p : List Nat) : ∀ (n : Nat) (x : Tm), n ≤ way.length → n ≤ p.length → fillM (t :: way) (j :: p) 0 (n + 1) x = setKid t j (fillM way p 0 n x)
 | 0, x, _, _ => by simp [fillM]
 | n + 1, x, hw, hp => by
  have h1 : fillM (t :: way) (j :: p) 0 (n + 1 + 1) x = (if n + 1 < 0 then x else match way[n]?, p[n]? with | some t', some k => fillM (t :: way) (j :: p) 0 (n + 1) (setKid t' k x) | _, _ => x) := rfl
  have h2 : fillM way p 0 (n + 1) x = (if n < 0 then x else match way[n]?, p[n]? with | some t', some k => fillM way p 0 n (setKid t' k x) | _, _ => x) := rfl
  rw [h1, h2, if_neg (by omega), if_neg (by omega), List.getElem?_eq_getElem (show n < way.length by omega), List.getElem?_eq_getElem (show n < p.length by omega)];exact fill_cons0 t way j p n _ (by omega) (by omega)
theorem set_plug (c : Cx) (x y : Tm) : setKid (c.plug x) c.pre.length y = c.plug y := by simp [setKid, Cx.plug]
theorem here_plug (c : Cx) {x : Tm} {p : List Nat} (h : okP x p) (y : Tm) : hereM (c.plug x) (c.pre.length :: p) y = c.plug (hereM x p y) := by
 have hl := way_len h
 unfold hereM
 rw [way_plug, List.length_cons, fill_cons0 _ _ _ _ _ _ (by omega) (Nat.le_refl _), set_plug]
theorem do_plug (c : Cx) {x : Tm} {p : List Nat} (h : okP x p) (hs : shT x) {ts : List KT} (hk : kindM ts x p = 6) : doM (c.plug x) (c.pre.length :: p) = c.plug (doM x p) := by
 obtain ⟨h11, hh, h', hg, hgt⟩ := (kind_inv hk).2.2.2.2.2.1 rfl
 obtain ⟨a, ha⟩ := len1 (sh_walk (p := p) hs) (.inr (.inr h11))
 have hwl := way_len h
 have hlt := hand_lt (wayM x p) (walkM x p).ref p.length
 have hn : 0 ≤ (walkM x p).num := by
  have := sh_walk (p := p) hs
  generalize walkM x p = w at this h11
  obtain ⟨k, n, r, ks, cs⟩ := w
  exact (this.2.1 h11).1
 unfold doM
 rw [walk_plug, way_plug, List.length_cons, hand_cons, if_pos hh]
 have e : (handM (wayM x p) (walkM x p).ref p.length + 1).toNat = (handM (wayM x p) (walkM x p).ref p.length).toNat + 1 := by omega
 rw [e]
 unfold backM
 rw [way_plug, List.length_cons]
 generalize hm : (handM (wayM x p) (walkM x p).ref p.length).toNat = m
 have hmp : m < p.length := by omega
 rw [List.take_succ_cons, walk_plug, ha]
 rw [hm, way_get h (by omega)] at hg
 simp only [Option.some.injEq] at hg
 rw [hg]
 have hb : (2 + (walkM x p).num).toNat < h'.kids.length := by omega
 rw [List.getElem?_eq_getElem hb]
 simp only
 rw [fill_cons1, fill_cons0 _ _ _ _ _ _ (by omega) (by omega), set_plug]
theorem next_plug {c : Cx} (hc : c.Ok) {x : Tm} (hs : shT x) (hx : valM x = false) {ts : List KT} (h9 : kindM ts x (placeM x) ≠ 9) : nextM ts (c.plug x) = c.plug (nextM ts x) := by
 have hok := place_ok hs
 unfold nextM
 rw [place_plug hc hx, (kind_plug c x (placeM x)).1 h9]
 unfold doesM
 rw [walk_plug]
 by_cases h1 : kindM ts x (placeM x) = 1
 ·rw [if_pos h1, if_pos h1, here_plug c hok]
 rw [if_neg h1, if_neg h1]
 by_cases h1 : kindM ts x (placeM x) = 2
 ·rw [if_pos h1, if_pos h1, here_plug c hok]
 rw [if_neg h1, if_neg h1]
 by_cases h1 : kindM ts x (placeM x) = 3
 ·rw [if_pos h1, if_pos h1, here_plug c hok]
 rw [if_neg h1, if_neg h1]
 by_cases h1 : kindM ts x (placeM x) = 4
 ·rw [if_pos h1, if_pos h1, here_plug c hok]
 rw [if_neg h1, if_neg h1]
 by_cases h1 : kindM ts x (placeM x) = 5
 ·rw [if_pos h1, if_pos h1, here_plug c hok]
 rw [if_neg h1, if_neg h1]
 by_cases h1 : kindM ts x (placeM x) = 6
 ·rw [if_pos h1, if_pos h1, do_plug c hok hs h1]
 rw [if_neg h1, if_neg h1, here_plug c hok]
structure Ard (ts : List KT) (f : Tm → Tm) (a : List Nat) : Prop where
 val : ∀ x, valM x = false → valM (f x) = false
 place : ∀ x, valM x = false → placeM (f x) = a ++ placeM x
 kind : ∀ x, shT x → valM x = false → (kindM ts x (placeM x) ≠ 9 → kindM ts (f x) (placeM (f x)) = kindM ts x (placeM x)) ∧ (kindM ts x (placeM x) = 9 → kindM ts (f x) (placeM (f x)) = 9 ∨ kindM ts (f x) (placeM (f x)) = 6 ∨ kindM ts (f x) (placeM (f x)) = 8)
 next : ∀ x, shT x → valM x = false → kindM ts x (placeM x) ≠ 9 → nextM ts (f x) = f (nextM ts x)
 sh : ∀ x, shT x → shT (f x)
theorem Cx.ard {c : Cx} (h : c.Ok) (ts : List KT) (hsh : ∀ x, shT x → shT (c.plug x)) : Ard ts c.plug [c.pre.length] where
 val := fun _ hx => val_plug h hx
 place := fun _ hx => place_plug h hx
 kind := fun x _ hx => by rw [place_plug h hx]; exact kind_plug c x (placeM x)
 next := fun _ hs hx h9 => next_plug h hs hx h9
 sh := hsh
end Go.Proofs.YtkcgkignhpepkaaGreatDoor

/- Types of terms; values put for variables keep them. -/
namespace Go.Proofs.YtkcgkignhpepkaaGreatDoor
open Go Hs
inductive YT where
 | ba (x : BT)
 | li (x : BT)
 | op (x : BT)
 | pa (x y : BT)
 | fn (a b : YT) (e : List AB)
def AB.res : AB → BT
 | .fl => .b
 | _ => .n
def AB.ops : AB → Nat
 | .st => 2
 | _ => 1
def YT.data : YT → Bool
 | .fn _ _ _ => false
 | _ => true
def defY (r : List Int) : Option YT :=
 if r = sumR 21 then some (.fn (.ba .n) (.ba .n) []) else if r = sumR 22 then some (.fn (.ba .n) (.fn (.ba .n) (.ba .n) []) [])
 else if r = sumR 23 then some (.fn (.li .n) (.ba .n) []) else if r = sumR 24 then some (.fn (.ba .n) (.ba .n) []) else none
inductive DV : YT → Tm → Prop
 | nat (n : Int) : DV (.ba .n) (nuM n)
 | boo (n : Int) (h : n = 0 ∨ n = 1) : DV (.ba .b) (coM (sumR 1) n [])
 | nil (x : BT) : DV (.li x) (coM (sumR 2) 0 [])
 | cons {x : BT} {a t : Tm} (h : DV (.ba x) a) (k : DV (.li x) t) : DV (.li x) (coM (sumR 2) 1 [a, t])
 | none (x : BT) : DV (.op x) (coM (sumR 4) 0 [])
 | some {x : BT} {a : Tm} (h : DV (.ba x) a) : DV (.op x) (coM (sumR 4) 1 [a])
 | pair {x y : BT} {a b : Tm} (h : DV (.ba x) a) (k : DV (.ba y) b) : DV (.pa x y) (coM (sumR 3) 0 [a, b])
inductive PT : YT → Pat → List YT → Prop
 | any (T : YT) : PT T anyM [T]
 | nat (n : Int) : PT (.ba .n) (pnM n) []
 | boo (n : Int) : PT (.ba .b) (pcM (sumR 1) n []) []
 | nil (x : BT) : PT (.li x) (pcM (sumR 2) 0 []) []
 | cons {x : BT} {p q : Pat} {D E : List YT} (h : PT (.ba x) p D) (k : PT (.li x) q E) : PT (.li x) (pcM (sumR 2) 1 [p, q]) (D ++ E)
 | none (x : BT) : PT (.op x) (pcM (sumR 4) 0 []) []
 | some {x : BT} {p : Pat} {D : List YT} (h : PT (.ba x) p D) : PT (.op x) (pcM (sumR 4) 1 [p]) D
 | pair {x y : BT} {p q : Pat} {D E : List YT} (h : PT (.ba x) p D) (k : PT (.ba y) q E) : PT (.pa x y) (pcM (sumR 3) 0 [p, q]) (D ++ E)
def Exh (T : YT) (cs : List Cs) : Prop := ∀ v, DV T v → ∃ c ∈ cs, (fitsM (csP c) v).2 = true
inductive HT : List YT → List AB → YT → Tm → Prop
 | va {G : List YT} {e : List AB} {T : YT} {n : Nat} (h : G[n]? = some T) : HT G e T (vaM n)
 | nu {G : List YT} {e : List AB} (n : Int) : HT G e (.ba .n) (nuM n)
 | la {G : List YT} {e f : List AB} {A B : YT} {b : Tm} (h : HT (A :: G) f B b) : HT G e (.fn A B f) (laM b)
 | ap {G : List YT} {e f : List AB} {A B : YT} {s t : Tm} (h : HT G e (.fn A B f) s) (k : HT G e A t) (hf : f ⊆ e) : HT G e B (apM s t)
 | le {G : List YT} {e : List AB} {A B : YT} {s t : Tm} (h : HT G e A s) (k : HT (A :: G) e B t) : HT G e B (leM s t)
 | de {G : List YT} {e : List AB} {T : YT} {r : List Int} (h : defY r = some T) : HT G e T (deM r)
 | boo {G : List YT} {e : List AB} {n : Int} (h : n = 0 ∨ n = 1) : HT G e (.ba .b) (coM (sumR 1) n [])
 | nil {G : List YT} {e : List AB} {x : BT} : HT G e (.li x) (coM (sumR 2) 0 [])
 | cons {G : List YT} {e : List AB} {x : BT} {s t : Tm} (h : HT G e (.ba x) s) (k : HT G e (.li x) t) : HT G e (.li x) (coM (sumR 2) 1 [s, t])
 | none {G : List YT} {e : List AB} {x : BT} : HT G e (.op x) (coM (sumR 4) 0 [])
 | some {G : List YT} {e : List AB} {x : BT} {s : Tm} (h : HT G e (.ba x) s) : HT G e (.op x) (coM (sumR 4) 1 [s])
 | pair {G : List YT} {e : List AB} {x y : BT} {s t : Tm} (h : HT G e (.ba x) s) (k : HT G e (.ba y) t) : HT G e (.pa x y) (coM (sumR 3) 0 [s, t])
 | pr {G : List YT} {e : List AB} {n : Int} {s t : Tm} (h : HT G e (.ba .n) s) (k : HT G e (.ba .n) t) : HT G e (.ba .n) (prM n s t)
 | ma {G : List YT} {e : List AB} {A T : YT} {s : Tm} {cs : List Cs} (D : Cs → List YT) (h : HT G e A s) (hA : A.data = true) (hx : Exh A cs) (hp : ∀ c, c ∈ cs → PT A (csP c) (D c)) (k : ∀ c, c ∈ cs → HT ((D c).reverse ++ G) e T (csT c)) : HT G e T (maM s cs)
 | doo {G : List YT} {e : List AB} {a : AB} {n : Nat} {T : YT} {s : Tm} (ha : a ∈ e) (hn : n < a.ops) (hT : T = .ba a.res) (h : HT G e (.ba .n) s) : HT G e T (doT a.ref n s)
 | ha {G : List YT} {e f : List AB} {a : AB} {A T : YT} {s t : Tm} {os : List Tm} (hf : f ⊆ e) (ho : os.length = a.ops) (h : HT G (a :: f) A s) (k : HT (A :: G) f T t) (l : ∀ o, o ∈ os → HT (.fn (.ba a.res) T f :: .ba .n :: G) f T o) : HT G e T (haM a.ref (s :: t :: os))
theorem HT.wk {G : List YT} {e : List AB} {T : YT} {t : Tm} (h : HT G e T t) : ∀ (G' : List YT) (e' : List AB), e ⊆ e' → HT (G ++ G') e' T t := by
 induction h with
 | va h => intro G' e' _; exact .va (by rw [List.getElem?_append_left (List.getElem?_eq_some_iff.1 h).1]; exact h)
 | nu n => intro G' e' _; exact .nu n
 | la _ ih => intro G' e' _; exact .la (ih G' _ (fun _ h => h))
 | ap _ _ hf ih1 ih2 => intro G' e' he; exact .ap (ih1 G' e' he) (ih2 G' e' he) (fun x hx => he (hf hx))
 | le _ _ ih1 ih2 => intro G' e' he; exact .le (ih1 G' e' he) (ih2 G' e' he)
 | de h => intro G' e' _; exact .de h
 | boo h => intro G' e' _; exact .boo h
 | nil => intro G' e' _; exact .nil
 | cons _ _ ih1 ih2 => intro G' e' he; exact .cons (ih1 G' e' he) (ih2 G' e' he)
 | none => intro G' e' _; exact .none
 | some _ ih => intro G' e' he; exact .some (ih G' e' he)
 | pair _ _ ih1 ih2 => intro G' e' he; exact .pair (ih1 G' e' he) (ih2 G' e' he)
 | pr _ _ ih1 ih2 => intro G' e' he; exact .pr (ih1 G' e' he) (ih2 G' e' he)
 | ma D _ hA hx hp _ ih1 ih2 => intro G' e' he; exact .ma D (ih1 G' e' he) hA hx hp (fun c hc => by rw [← List.append_assoc]; exact ih2 c hc G' e' he)
 | doo ha hn hT _ ih => intro G' e' he; exact .doo (he ha) hn hT (ih G' e' he)
 | ha hf ho _ _ _ ih1 ih2 ih3 => intro G' e' he; exact .ha (fun x hx => he (hf hx)) ho (ih1 G' _ (fun _ h => h)) (ih2 G' _ (fun _ h => h)) (fun o h => ih3 o h G' _ (fun _ h => h))
theorem HT.up {e : List AB} {T : YT} {t : Tm} (h : HT [] e T t) (G : List YT) {e' : List AB} (he : e ⊆ e') : HT G e' T t := h.wk G e' he
theorem HT.val {G : List YT} {e : List AB} {T : YT} {t : Tm} (h : HT G e T t) : valM t = true → ∀ e', HT G e' T t := by
 induction h with
 | va h => intro hv; simp [vaM, valM] at hv
 | nu n => intro _ e'; exact .nu n
 | la h _ => intro _ e'; exact .la h
 | ap => intro hv; simp [apM, valM] at hv
 | le => intro hv; simp [leM, valM] at hv
 | de h => intro hv; simp [deM, valM] at hv
 | boo h => intro _ e'; exact .boo h
 | nil => intro _ e'; exact .nil
 | cons _ _ ih1 ih2 => intro hv e'; simp [coM, valM, valL] at hv; exact .cons (ih1 hv.1 e') (ih2 hv.2 e')
 | none => intro _ e'; exact .none
 | some _ ih => intro hv e'; simp [coM, valM, valL] at hv; exact .some (ih hv e')
 | pair _ _ ih1 ih2 => intro hv e'; simp [coM, valM, valL] at hv; exact .pair (ih1 hv.1 e') (ih2 hv.2 e')
 | pr => intro hv; simp [prM, valM] at hv
 | ma => intro hv; simp [maM, valM] at hv
 | doo => intro hv; simp [doT, valM] at hv
 | ha => intro hv; simp [haM, valM] at hv
def VT (T : YT) (v : Tm) : Prop := valM v = true ∧ ∀ e, HT [] e T v
theorem HT.vt {e : List AB} {T : YT} {t : Tm} (h : HT [] e T t) (hv : valM t = true) : VT T t := ⟨hv, h.val hv⟩
theorem HT.dv {G : List YT} {e : List AB} {T : YT} {t : Tm} (h : HT G e T t) : valM t = true → T.data = true → DV T t := by
 induction h with
 | va h => intro hv; simp [vaM, valM] at hv
 | nu n => intro _ _; exact .nat n
 | la h _ => intro _ hd; cases hd
 | ap => intro hv; simp [apM, valM] at hv
 | le => intro hv; simp [leM, valM] at hv
 | de h => intro hv; simp [deM, valM] at hv
 | boo h => intro _ _; exact .boo _ h
 | nil => intro _ _; exact .nil _
 | cons _ _ ih1 ih2 => intro hv _; simp [coM, valM, valL] at hv; exact .cons (ih1 hv.1 rfl) (ih2 hv.2 rfl)
 | none => intro _ _; exact .none _
 | some _ ih => intro hv _; simp [coM, valM, valL] at hv; exact .some (ih hv rfl)
 | pair _ _ ih1 ih2 => intro hv _; simp [coM, valM, valL] at hv; exact .pair (ih1 hv.1 rfl) (ih2 hv.2 rfl)
 | pr => intro hv; simp [prM, valM] at hv
 | ma => intro hv; simp [maM, valM] at hv
 | doo => intro hv; simp [doT, valM] at hv
 | ha => intro hv; simp [haM, valM] at hv
theorem DV.ht {T : YT} {v : Tm} (h : DV T v) : VT T v := by
 induction h with
 | nat n => exact ⟨by simp [nuM, valM], fun e => .nu n⟩
 | boo n h => exact ⟨by simp [coM, valM, valL], fun e => .boo h⟩
 | nil x => exact ⟨by simp [coM, valM, valL], fun e => .nil⟩
 | cons _ _ ih1 ih2 => exact ⟨by simp [coM, valM, valL, ih1.1, ih2.1], fun e => .cons (ih1.2 e) (ih2.2 e)⟩
 | none x => exact ⟨by simp [coM, valM, valL], fun e => .none⟩
 | some _ ih => exact ⟨by simp [coM, valM, valL, ih.1], fun e => .some (ih.2 e)⟩
 | pair _ _ ih1 ih2 => exact ⟨by simp [coM, valM, valL, ih1.1, ih2.1], fun e => .pair (ih1.2 e) (ih2.2 e)⟩
theorem HT.lam {G : List YT} {e f : List AB} {A B : YT} {t : Tm} (h : HT G e (.fn A B f) t) (hv : valM t = true) : ∃ b, t = laM b ∧ HT (A :: G) f B b := by
 generalize hT : YT.fn A B f = T at h
 cases h with
 | va h => simp [vaM, valM] at hv
 | nu n => cases hT
 | la h => cases hT; exact ⟨_, rfl, h⟩
 | ap => simp [apM, valM] at hv
 | le => simp [leM, valM] at hv
 | de h => simp [deM, valM] at hv
 | boo h => cases hT
 | nil => cases hT
 | cons => cases hT
 | none => cases hT
 | some => cases hT
 | pair => cases hT
 | pr => cases hT
 | ma => simp [maM, valM] at hv
 | doo => simp [doT, valM] at hv
 | ha => simp [haM, valM] at hv
def Vals (S : List YT) (vs : List Tm) : Prop := vs.length = S.length ∧ ∀ (j : Nat) (T : YT), S[j]? = some T → ∃ v, vs[vs.length - 1 - j]? = some v ∧ VT T v
theorem putC_map (vs : List Tm) (d : Int) : ∀ cs : List Cs, putC vs d cs = cs.map (putS vs d)
 | [] => rfl
 | c :: cs => by simp only [putC, List.map_cons, putC_map vs d cs]
theorem putS_P (vs : List Tm) (d : Int) (c : Cs) : csP (putS vs d c) = csP c := by cases c; simp [putS, csP]
theorem putS_T (vs : List Tm) (d : Int) (c : Cs) : csT (putS vs d c) = putM vs (d + bindsM (csP c)) (csT c) := by cases c; simp [putS, csP, csT]
theorem PT.binds {A : YT} {p : Pat} {D : List YT} (h : PT A p D) : bindsM p = D.length := by
 induction h with
 | any T => simp [anyM, bindsM]
 | nat n => simp [pnM, bindsM, bindsL]
 | boo n => simp [pcM, bindsM, bindsL]
 | nil x => simp [pcM, bindsM, bindsL]
 | cons _ _ ih1 ih2 => simp [pcM, bindsM, bindsL, ih1, ih2]
 | none x => simp [pcM, bindsM, bindsL]
 | some _ ih => simp [pcM, bindsM, bindsL, ih]
 | pair _ _ ih1 ih2 => simp [pcM, bindsM, bindsL, ih1, ih2]
theorem exh_put {A : YT} {cs : List Cs} (h : Exh A cs) (vs : List Tm) (d : Int) : Exh A (putC vs d cs) := fun v hv => by
 obtain ⟨c, hc, hf⟩ := h v hv
 exact ⟨putS vs d c, by rw [putC_map]; exact List.mem_map_of_mem hc, by rw [putS_P]; exact hf⟩
theorem HT.put {H : List YT} {e : List AB} {T : YT} {t : Tm} (h : HT H e T t) : ∀ (G S : List YT) (vs : List Tm), H = G ++ S → Vals S vs → G.length + 2 * tsize t + vs.length < 2^40 → HT G e T (putM vs G.length t) := by
 induction h with
 | va h =>
  rename_i H e T n
  intro G S vs hH hV hb
  subst hH
  have hn := (List.getElem?_eq_some_iff.1 h).1
  rw [List.length_append, ← hV.1] at hn
  have hw : IntKind.i64.wrap ((n : Int) - (G.length : Int)) = (n : Int) - G.length := wrap64 (by omega) (by omega)
  simp only [vaM, putM]
  by_cases hlt : n < G.length
  ·rw [dif_neg (fun h => by rw [hw] at h; omega)]
   simp only [putK, putC]
   exact .va (by rw [List.getElem?_append_left hlt] at h; exact h)
  ·rw [dif_pos ⟨trivial, by rw [hw]; omega, by omega⟩, dif_pos (by rw [hw]; omega)]
   rw [List.getElem?_append_right (by omega)] at h
   obtain ⟨v, hv, hvt⟩ := hV.2 _ _ h
   have e1 : (IntKind.i64.wrap ((n : Int) - (G.length : Int))).toNat = n - G.length := by rw [hw]; omega
   obtain ⟨hl, hv⟩ := List.getElem?_eq_some_iff.1 hv
   simp only [e1, hv]
   exact (hvt.2 e).up G (fun _ h => h)
 | nu n => intro G S vs _ _ _; simp only [nuM, putM, putK, putC]; rw [dif_neg (fun h => absurd h.1 (by decide))]; exact .nu n
 | la h ih =>
  rename_i H e f A B b
  intro G S vs hH hV hb
  subst hH
  simp only [laM, tsize, tsizeL, csizeL] at hb
  have := ih (A :: G) S vs rfl hV (by simp; omega)
  simp only [laM, putM, putK, putC]
  rw [dif_neg (fun h => absurd h.1 (by decide))];refine .la ?_
  simpa [moreM] using this
 | ap h k hf ih1 ih2 =>
  intro G S vs hH hV hb
  simp only [apM, tsize, tsizeL, csizeL] at hb
  have k1 := ih1 G S vs hH hV (by omega)
  have k2 := ih2 G S vs hH hV (by omega)
  simp only [apM, putM, putK, putC]
  rw [dif_neg (fun h => absurd h.1 (by decide))];exact .ap (by simpa [moreM] using k1) (by simpa [moreM] using k2) hf
 | le h k ih1 ih2 =>
  rename_i H e A B s t
  intro G S vs hH hV hb
  subst hH
  simp only [leM, tsize, tsizeL, csizeL] at hb
  have k1 := ih1 G S vs rfl hV (by omega)
  have k2 := ih2 (A :: G) S vs rfl hV (by simp; omega)
  simp only [leM, putM, putK, putC]
  rw [dif_neg (fun h => absurd h.1 (by decide))];exact .le (by simpa [moreM] using k1) (by simpa [moreM] using k2)
 | de h => intro G S vs _ _ _; simp only [deM, putM, putK, putC]; rw [dif_neg (fun h => absurd h.1 (by decide))]; exact .de h
 | boo h => intro G S vs _ _ _; simp only [coM, putM, putK, putC]; rw [dif_neg (fun h => absurd h.1 (by decide))]; exact .boo h
 | nil => intro G S vs _ _ _; simp only [coM, putM, putK, putC]; rw [dif_neg (fun h => absurd h.1 (by decide))]; exact .nil
 | cons h k ih1 ih2 =>
  intro G S vs hH hV hb
  simp only [coM, tsize, tsizeL, csizeL] at hb
  have k1 := ih1 G S vs hH hV (by omega)
  have k2 := ih2 G S vs hH hV (by omega)
  simp only [coM, putM, putK, putC]
  rw [dif_neg (fun h => absurd h.1 (by decide))];exact .cons (by simpa [moreM] using k1) (by simpa [moreM] using k2)
 | none => intro G S vs _ _ _; simp only [coM, putM, putK, putC]; rw [dif_neg (fun h => absurd h.1 (by decide))]; exact .none
 | some h ih =>
  intro G S vs hH hV hb
  simp only [coM, tsize, tsizeL, csizeL] at hb
  have k1 := ih G S vs hH hV (by omega)
  simp only [coM, putM, putK, putC]
  rw [dif_neg (fun h => absurd h.1 (by decide))];exact .some (by simpa [moreM] using k1)
 | pair h k ih1 ih2 =>
  intro G S vs hH hV hb
  simp only [coM, tsize, tsizeL, csizeL] at hb
  have k1 := ih1 G S vs hH hV (by omega)
  have k2 := ih2 G S vs hH hV (by omega)
  simp only [coM, putM, putK, putC]
  rw [dif_neg (fun h => absurd h.1 (by decide))];exact .pair (by simpa [moreM] using k1) (by simpa [moreM] using k2)
 | pr h k ih1 ih2 =>
  intro G S vs hH hV hb
  simp only [prM, tsize, tsizeL, csizeL] at hb
  have k1 := ih1 G S vs hH hV (by omega)
  have k2 := ih2 G S vs hH hV (by omega)
  simp only [prM, putM, putK, putC]
  rw [dif_neg (fun h => absurd h.1 (by decide))];exact .pr (by simpa [moreM] using k1) (by simpa [moreM] using k2)
 | ma D h hA hx hp k ih1 ih2 =>
  rename_i H e A T s cs
  intro G S vs hH hV hb
  subst hH
  simp only [maM, tsize, tsizeL, csizeL] at hb
  have k1 := ih1 G S vs rfl hV (by omega)
  simp only [maM, putM, putK]
  rw [dif_neg (fun h => absurd h.1 (by decide))]
  have hD : ∀ c', c' ∈ putC vs G.length cs → ∃ c ∈ cs, c' = putS vs G.length c := fun c' hc' => by
   rw [putC_map] at hc'
   obtain ⟨c, hc, rfl⟩ := List.mem_map.1 hc'
   exact ⟨c, hc, rfl⟩
  classical
  refine .ma (fun c' => if h : ∃ c ∈ cs, c' = putS vs G.length c then D h.choose else []) (by simpa [moreM] using k1) hA (exh_put hx _ _) (fun c' hc' => ?_) (fun c' hc' => ?_)
  ·have hh := hD c' hc'
   rw [dif_pos hh]
   have := hp _ hh.choose_spec.1
   conv => arg 2; rw [hh.choose_spec.2, putS_P]
   exact this
  ·have hh := hD c' hc'
   rw [dif_pos hh]
   have h1 := hp _ hh.choose_spec.1
   have h2 := ih2 _ hh.choose_spec.1 ((D hh.choose).reverse ++ G) S vs (by rw [List.append_assoc]) hV (by
    have hz := csize_mem hh.choose_spec.1
    have hbb := (binds_bound (csP hh.choose)).2
    rw [h1.binds] at hbb
    generalize hh.choose = c at hz hbb
    obtain ⟨p, u⟩ := c
    simp only [csize, csP, csT] at hz hbb ⊢
    rw [List.length_append, List.length_reverse]
    omega)
   conv => arg 4; rw [hh.choose_spec.2, putS_T, h1.binds]
   rw [show ((G.length : Int) + ((D hh.choose).length : Int)) = ((((D hh.choose).reverse ++ G).length : Nat) : Int) by simp; omega];exact h2
 | doo ha hn hT h ih =>
  intro G S vs hH hV hb
  simp only [doT, tsize, tsizeL, csizeL] at hb
  have k1 := ih G S vs hH hV (by omega)
  simp only [doT, putM, putK, putC]
  rw [dif_neg (fun h => absurd h.1 (by decide))];exact .doo ha hn hT (by simpa [moreM] using k1)
 | ha hf ho h k l ih1 ih2 ih3 =>
  rename_i H e f a A T s t os
  intro G S vs hH hV hb
  subst hH
  simp only [haM, tsize, tsizeL, csizeL] at hb
  have k1 := ih1 G S vs rfl hV (by omega)
  have k2 := ih2 (A :: G) S vs rfl hV (by simp; omega)
  simp only [haM, putM, putK, putC]
  rw [dif_neg (fun h => absurd h.1 (by decide))];refine .ha hf (by rw [putK_len]; exact ho) (by simpa [moreM] using k1) (by simpa [moreM] using k2) (fun o' ho' => ?_)
  obtain ⟨j, hj, rfl⟩ := List.mem_iff_getElem.1 ho'
  rw [putK_len] at hj
  rw [putK_get vs _ _ os _ j hj]
  have hz := tsize_mem (List.getElem_mem hj)
  have k3 := ih3 _ (List.getElem_mem hj) (.fn (.ba a.res) T f :: .ba .n :: G) S vs rfl hV (by simp; omega)
  have hm : moreM 12 ((0 + 1 + 1 + j : Nat) : Int) = 2 := by
   unfold moreM
   rw [if_neg (by omega), if_pos (by omega)]
  rw [hm];rw [show ((G.length : Int) + 2) = (((YT.fn (.ba a.res) T f :: YT.ba .n :: G).length : Nat) : Int) by simp; omega];exact k3
end Go.Proofs.YtkcgkignhpepkaaGreatDoor

/- A step keeps the type, and there is one. -/
namespace Go.Proofs.YtkcgkignhpepkaaGreatDoor
open Go Hs
def Bnd (D : List YT) (l : List Tm) : Prop := l.length = D.length ∧ ∀ (j : Nat) (T : YT), D[j]? = some T → ∃ v, l[j]? = some v ∧ VT T v
theorem Bnd.nil : Bnd [] [] := ⟨rfl, by simp⟩
theorem Bnd.app {D E : List YT} {l m : List Tm} (h : Bnd D l) (k : Bnd E m) : Bnd (D ++ E) (l ++ m) := by
 refine ⟨by simp [h.1, k.1], fun j T hj => ?_⟩
 by_cases hl : j < D.length
 ·rw [List.getElem?_append_left hl] at hj
  rw [List.getElem?_append_left (by rw [h.1]; exact hl)];exact h.2 j T hj
 ·rw [List.getElem?_append_right (by omega)] at hj
  rw [List.getElem?_append_right (by rw [h.1]; omega), h.1];exact k.2 _ T hj
theorem Bnd.vals {D : List YT} {l : List Tm} (h : Bnd D l) : Vals D.reverse l := by
 refine ⟨by simp [h.1], fun j T hj => ?_⟩
 have hjl := (List.getElem?_eq_some_iff.1 hj).1
 rw [List.length_reverse] at hjl
 rw [List.getElem?_reverse hjl] at hj
 rw [h.1];exact h.2 _ T hj
theorem fits_pc (r : List Int) (n : Int) (ks : List Pat) (v : Tm) : fitsM (pcM r n ks) v = if (v.kind != 8 || !(v.ref == r) || v.num != n || ((v.kids.length : Int) != ks.length)) then ([], false) else fitsL ks v.kids := rfl
theorem fits_co (r : List Int) (n : Int) (ks : List Pat) (vs : List Tm) (h : vs.length = ks.length) : fitsM (pcM r n ks) (coM r n vs) = fitsL ks vs := by
 rw [fits_pc, if_neg (by simp [coM, Tm.kind, Tm.ref, Tm.num, Tm.kids, h])]
 rfl
theorem fits_no (r : List Int) (n m : Int) (ks : List Pat) (vs : List Tm) (h : m ≠ n) : (fitsM (pcM r n ks) (coM r m vs)).2 = false := by
 rw [fits_pc, if_pos (by simp [coM, Tm.kind, Tm.ref, Tm.num, Tm.kids, h])]
theorem fits_none (r : List Int) (n : Int) (v : Tm) : (fitsM (pcM r n []) v).1 = [] := by
 rw [fits_pc]
 split <;> rfl
theorem fad2 (z y : List Tm × Bool) (h : (fitAdd z (fitAdd y ([], true))).2 = true) : z.2 = true ∧ y.2 = true ∧ (fitAdd z (fitAdd y ([], true))).1 = z.1 ++ y.1 := by
 obtain ⟨l, x⟩ := z
 obtain ⟨m, y⟩ := y
 revert h
 cases x <;> cases y <;> simp [fitAdd]
theorem fad1 (z : List Tm × Bool) (h : (fitAdd z ([], true)).2 = true) : z.2 = true ∧ (fitAdd z ([], true)).1 = z.1 := by
 obtain ⟨l, x⟩ := z
 revert h
 cases x <;> simp [fitAdd]
theorem fits2 {p q : Pat} {a b : Tm} (h : (fitsL [p, q] [a, b]).2 = true) : (fitsM p a).2 = true ∧ (fitsM q b).2 = true ∧ (fitsL [p, q] [a, b]).1 = (fitsM p a).1 ++ (fitsM q b).1 := by
 simp only [fitsL] at h ⊢
 exact fad2 _ _ h
theorem fits1 {p : Pat} {a : Tm} (h : (fitsL [p] [a]).2 = true) : (fitsM p a).2 = true ∧ (fitsL [p] [a]).1 = (fitsM p a).1 := by
 simp only [fitsL] at h ⊢
 exact fad1 _ h
theorem PT.fits {A : YT} {p : Pat} {D : List YT} (h : PT A p D) : ∀ {v : Tm}, DV A v → (fitsM p v).2 = true → Bnd D (fitsM p v).1 := by
 induction h with
 | any T =>
  intro v hv _
  refine ⟨by simp [anyM, fitsM], fun j T' hj => ?_⟩
  cases j with
  | zero => simp at hj; subst hj; exact ⟨v, by simp [anyM, fitsM], hv.ht⟩
  | succ j => simp at hj
 | nat n => intro v _ _; simp only [pnM, fitsM]; exact .nil
 | boo n => intro v _ _; rw [fits_none]; exact .nil
 | nil x => intro v _ _; rw [fits_none]; exact .nil
 | none x => intro v _ _; rw [fits_none]; exact .nil
 | cons h k ih1 ih2 =>
  intro v hv hf
  cases hv with
  | nil => rw [fits_no _ _ _ _ _ (by decide)] at hf; cases hf
  | cons ha ht =>
   rw [fits_co _ _ _ _ rfl] at hf ⊢
   obtain ⟨f1, f2, f3⟩ := fits2 hf
   rw [f3];exact (ih1 ha f1).app (ih2 ht f2)
 | some h ih =>
  intro v hv hf
  cases hv with
  | none => rw [fits_no _ _ _ _ _ (by decide)] at hf; cases hf
  | some ha =>
   rw [fits_co _ _ _ _ rfl] at hf ⊢
   obtain ⟨f1, f3⟩ := fits1 hf
   rw [f3];exact ih ha f1
 | pair h k ih1 ih2 =>
  intro v hv hf
  cases hv with
  | pair ha ht =>
   rw [fits_co _ _ _ _ rfl] at hf ⊢
   obtain ⟨f1, f2, f3⟩ := fits2 hf
   rw [f3];exact (ih1 ha f1).app (ih2 ht f2)
theorem match_ty {A T : YT} {e : List AB} {v : Tm} (hv : DV A v) (D : Cs → List YT) : ∀ {cs : List Cs}, (∀ c, c ∈ cs → PT A (csP c) (D c)) → (∀ c, c ∈ cs → HT ((D c).reverse ++ []) e T (csT c)) → (∃ c ∈ cs, (fitsM (csP c) v).2 = true) → csizeL cs + tsize v < 2^30 → HT [] e T (matchM cs v)
 | [], _, _, hx, _ => by obtain ⟨c, hc, _⟩ := hx; cases hc
 | .mk p b :: cs, hp, hk, hx, hz => by
  simp only [csizeL, csize] at hz
  simp only [matchM]
  by_cases hf : (fitsM p v).2 = true
  ·rw [if_pos hf]
   have h1 := (hp (.mk p b) (by simp)).fits hv hf
   have h2 := hk (.mk p b) (by simp)
   have h3 := fits_b p v
   exact h2.put [] _ (fitsM p v).1 (by simp) h1.vals (by simp only [csT, List.length_nil]; omega)
  ·rw [if_neg hf]
   refine match_ty hv D (fun c hc => hp c (by simp [hc])) (fun c hc => hk c (by simp [hc])) ?_ (by omega)
   obtain ⟨c, hc, h⟩ := hx
   rcases List.mem_cons.1 hc with rfl | hc
   ·exact absurd h hf
   ·exact ⟨c, hc, h⟩
theorem HT.kind0 {G : List YT} {e : List AB} {T : YT} {t : Tm} (h : HT G e T t) : t.kind ≠ 0 := by
 cases h <;> simp [vaM, nuM, laM, apM, leM, deM, coM, prM, maM, doT, haM, Tm.kind]
theorem def_ty {r : List Int} {T : YT} (h : defY r = some T) (e : List AB) : ∃ b, bodM r worldT = some b ∧ HT [] e T b := by
 have two : ∀ {a b : Cs} {P : Cs → Prop}, P a → P b → ∀ c, c ∈ [a, b] → P c := fun ha hb c hc => by
  simp only [List.mem_cons, List.not_mem_nil, or_false] at hc
  rcases hc with rfl | rfl
  ·exact ha
  ·exact hb
 unfold defY at h
 split at h
 ·rename_i hr; subst hr; cases h
  exact ⟨_, rfl, .la (.pr (.va rfl) (.nu 1))⟩
 split at h
 ·rename_i hr; subst hr; cases h
  exact ⟨_, rfl, .la (.la (.pr (.va (n := 1) rfl) (.va (n := 0) rfl)))⟩
 split at h
 ·rename_i hr; subst hr; cases h
  refine ⟨_, rfl, .la (.ma (A := .li .n) (fun c => if bindsM (csP c) = 0 then [] else [.ba .n, .li .n]) (.va (n := 0) rfl) rfl ?_ ?_ ?_)⟩
  ·intro v hv
   cases hv with
   | nil => exact ⟨_, by simp; exact .inl rfl, by simp [csP, pcM, fitsM, fitsL, coM, Tm.kind, Tm.ref, Tm.num, Tm.kids]⟩
   | cons h k => exact ⟨_, by simp; exact .inr rfl, by simp [csP, pcM, anyM, fitsM, fitsL, fitAdd, coM, Tm.kind, Tm.ref, Tm.num, Tm.kids]⟩
  ·exact two (.nil .n) (.cons (.any _) (.any _))
  ·refine two (.nu 0) ?_
   exact .pr (.va (n := 1) rfl) (.ap (f := []) (.de (by simp [defY, sumR])) (.va (n := 0) rfl) (by simp))
 split at h
 ·rename_i hr; subst hr; cases h
  refine ⟨_, rfl, .la (.ma (A := .ba .n) (fun c => if bindsM (csP c) = 0 then [] else [.ba .n]) (.va (n := 0) rfl) rfl ?_ ?_ ?_)⟩
  ·intro v hv
   exact ⟨.mk anyM (apM (deM (sumR 24)) (prM 2 (vaM 0) (nuM 1))), by simp, by simp [csP, anyM, fitsM]⟩
  ·exact two (.nat 0) (.any _)
  ·refine two (.nu 0) ?_
   exact .ap (f := []) (.de (by simp [defY, sumR])) (.pr (.va (n := 0) rfl) (.nu 1)) (by simp)
 ·cases h
def Goes (e : List AB) (T : YT) (t : Tm) : Prop :=
 (kindM worldT t (placeM t) = 9 ∧ ∃ (a : AB) (n : Nat) (v : Tm), walkM t (placeM t) = doT a.ref n v ∧ a ∈ e ∧ n < a.ops ∧ VT (.ba .n) v ∧ ∀ (G : List YT) (y : Tm), (∀ f, HT G f (.ba a.res) y) → HT G e T (hereM t (placeM t) y)) ∨
 (1 ≤ kindM worldT t (placeM t) ∧ kindM worldT t (placeM t) ≤ 7 ∧ HT [] e T (nextM worldT t))
theorem kind_nine {ts : List KT} {c : Cx} {x : Tm} {p : List Nat} (h : kindM ts x p = 9) : kindM ts (c.plug x) (c.pre.length :: p) = if (c.k == 12 && c.r == (walkM x p).ref) = true then cond (decide (((c.plug x).kids.length : Int) > 2 + (walkM x p).num)) 6 8 else 9 := by
 unfold kindM at h ⊢
 rw [walk_plug, way_plug, List.length_cons]
 generalize walkM x p = w at h ⊢
 generalize wayM x p = way at h ⊢
 generalize p.length = len at h ⊢
 have h11 := (kind_inv h).2.2.2.2.2.2.2.2 rfl
 obtain ⟨k, n, r, ks, cs⟩ := w
 simp only [kind_mk] at h11
 subst h11
 simp only [kindW, if_neg (show ¬ (11 : Int) = 4 by decide), if_neg (show ¬ (11 : Int) = 5 by decide), if_neg (show ¬ (11 : Int) = 6 by decide), if_neg (show ¬ (11 : Int) = 10 by decide), if_neg (show ¬ (11 : Int) = 9 by decide), if_true] at h ⊢
 have hl := (hand_lt way r len).2
 by_cases hh : 0 ≤ handM way r len
 ·exfalso
  rw [if_neg (by omega)] at h
  revert h
  cases way[(handM way r len).toNat]? with
  | none => simp
  | some h => simp only; generalize decide ((h.kids.length : Int) > 2 + n) = b; cases b <;> simp
 ·rw [hand_cons, if_neg hh]
  have e1 : ((c.plug x).kind == 12 && (c.plug x).ref == r) = (c.k == 12 && c.r == (Tm.mk 11 n r ks cs).ref) := rfl
  rw [e1]
  by_cases hp : (c.k == 12 && c.r == (Tm.mk 11 n r ks cs).ref) = true
  ·rw [if_pos hp, if_pos hp, if_neg (by decide)]
   rfl
  ·rw [if_neg hp, if_neg hp, if_pos (by decide)]
theorem hand_nine {ts : List KT} {x : Tm} {p : List Nat} (h : kindM ts x p = 9) : handM (wayM x p) (walkM x p).ref p.length < 0 := by
 unfold kindM at h
 have h11 := (kind_inv h).2.2.2.2.2.2.2.2 rfl
 generalize walkM x p = w at h h11 ⊢
 generalize wayM x p = way at h ⊢
 obtain ⟨k, n, r, ks, cs⟩ := w
 simp only [kind_mk] at h11
 subst h11
 simp only [kindW, if_neg (show ¬ (11 : Int) = 4 by decide), if_neg (show ¬ (11 : Int) = 5 by decide), if_neg (show ¬ (11 : Int) = 6 by decide), if_neg (show ¬ (11 : Int) = 10 by decide), if_neg (show ¬ (11 : Int) = 9 by decide), if_true] at h
 simp only [ref_mk]
 by_cases hh : handM way r p.length < 0
 ·exact hh
 ·exfalso
  rw [if_neg hh] at h
  revert h
  cases way[(handM way r p.length).toNat]? with
  | none => simp
  | some h => simp only; generalize decide ((h.kids.length : Int) > 2 + n) = b; cases b <;> simp
theorem Goes.plug {c : Cx} {x : Tm} {e f : List AB} {T A : YT} (hc : c.Ok) (h12 : c.k ≠ 12) (hx : valM x = false) (hs : shT x) (he : f ⊆ e) (hR : ∀ (G : List YT) (y : Tm), HT G f A y → HT G e T (c.plug y)) (h : Goes f A x) : Goes e T (c.plug x) := by
 have hok := place_ok hs
 unfold Goes
 rw [place_plug hc hx]
 rcases h with ⟨h9, a, n, v, hw, ha, hn, hv, hy⟩ | ⟨h1, h7, hn⟩
 ·refine .inl ⟨by rw [kind_nine h9, if_neg (by simp [h12])], a, n, v, by rw [walk_plug]; exact hw, he ha, hn, hv, fun G y h => ?_⟩
  rw [here_plug c hok];exact hR G _ (hy G y h)
 ·have hk := (kind_plug (ts := worldT) c x (placeM x)).1 (by omega)
  refine .inr ⟨by rw [hk]; exact h1, by rw [hk]; exact h7, ?_⟩;rw [next_plug hc hs hx (by omega)];exact hR [] _ hn
theorem up1 {e : List AB} {T : YT} {t : Tm} {G : List YT} (h : HT [] e T t) : HT G e T t := h.up G (fun _ h => h)
theorem up2 {A : YT} {e : List AB} {T : YT} {t : Tm} {G : List YT} (h : HT [A] e T t) : HT (A :: G) e T t := h.wk G e (fun _ h => h)
theorem up3 {A B : YT} {e : List AB} {T : YT} {t : Tm} {G : List YT} (h : HT [A, B] e T t) : HT (A :: B :: G) e T t := h.wk G e (fun _ h => h)
theorem vals1 {A : YT} {v : Tm} (h : VT A v) : Vals [A] [v] := ⟨rfl, fun j T hj => by
 cases j with
 | zero => simp at hj; subst hj; exact ⟨v, rfl, h⟩
 | succ j => simp at hj⟩
theorem vals2 {A B : YT} {v w : Tm} (h : VT A v) (k : VT B w) : Vals [B, A] [v, w] := ⟨rfl, fun j T hj => by
 rcases j with _ | _ | j
 ·simp at hj; subst hj; exact ⟨w, rfl, k⟩
 ·simp at hj; subst hj; exact ⟨v, rfl, h⟩
 ·simp at hj⟩
theorem put1 {e : List AB} {A T : YT} {t v : Tm} (h : HT [A] e T t) (hv : VT A v) (hz : tsize t < 2^30) : HT [] e T (putM [v] 0 t) := h.put [] [A] [v] rfl (vals1 hv) (by simp; omega)
theorem doM_top {c : Cx} {x v b : Tm} {p : List Nat} (hh : handM (wayM x p) (walkM x p).ref p.length < 0) (hc : (c.k == 12 && c.r == (walkM x p).ref) = true) (hv : (walkM x p).kids[0]? = some v) (hb : (c.plug x).kids[(2 + (walkM x p).num).toNat]? = some b) : doM (c.plug x) (c.pre.length :: p) = putM [v, laM (hereM (c.plug x) (c.pre.length :: p) varM)] 0 b := by
 have e0 : handM (wayM (c.plug x) (c.pre.length :: p)) (walkM (c.plug x) (c.pre.length :: p)).ref (c.pre.length :: p).length = 0 := by
  rw [walk_plug, way_plug, List.length_cons, hand_cons, if_neg (by omega)];exact if_pos hc
 have e1 : (walkM (c.plug x) (c.pre.length :: p)).kids[0]? = some v := by rw [walk_plug]; exact hv
 unfold doM
 rw [e0, walk_plug]
 have e2 : walkM (c.plug x) ((c.pre.length :: p).take (0 : Int).toNat) = c.plug x := rfl
 rw [hv, e2, hb]
 rfl
theorem HT.goes {G : List YT} {e : List AB} {T : YT} {t : Tm} (h : HT G e T t) : G = [] → shT t → tsize t < 2^28 → valM t = false → Goes e T t := by
 induction h with
 | va h => intro hG; subst hG; simp at h
 | nu n => intro _ _ _ hv; simp [nuM, valM] at hv
 | la => intro _ _ _ hv; simp [laM, valM] at hv
 | ap h k hf ih1 ih2 =>
  rename_i G e f A B s t
  intro hG hs hz hv
  subst hG
  simp only [apM, tsize, tsizeL, csizeL] at hz
  simp only [apM, shT, shL] at hs
  cases h1 : valM s with
  | false => exact Goes.plug (c := ⟨4, 0, Z32, [], [t], []⟩) ⟨by simp, by simp [manyM]⟩ (by simp) h1 hs.2.2.1.1 (fun _ h => h) (fun G y hy => .ap hy (up1 k) hf) (ih1 rfl hs.2.2.1.1 (by omega) h1)
  | true =>
   cases h2 : valM t with
   | false => exact Goes.plug (c := ⟨4, 0, Z32, [s], [], []⟩) ⟨by simp [h1], by simp [manyM]⟩ (by simp) h2 hs.2.2.1.2.1 (fun _ h => h) (fun G y hy => .ap (up1 h) hy hf) (ih2 rfl hs.2.2.1.2.1 (by omega) h2)
   | true =>
    obtain ⟨b, rfl, hb⟩ := h.lam h1
    have hp : placeM (apM (laM b) t) = [] := by simp [apM, placeM, placeL, h1, h2]
    have hk : kindM worldT (apM (laM b) t) [] = 1 := rfl
    refine .inr ?_
    unfold nextM
    rw [hp, hk]
    refine ⟨by decide, by decide, ?_⟩
    show HT [] e B (putM [t] 0 b)
    simp only [laM, tsize, tsizeL, csizeL] at hz
    exact (put1 hb (k.vt h2) (by omega)).up [] hf
 | le h k ih1 ih2 =>
  rename_i G e A B s t
  intro hG hs hz hv
  subst hG
  simp only [leM, tsize, tsizeL, csizeL] at hz
  simp only [leM, shT, shL] at hs
  cases h1 : valM s with
  | false => exact Goes.plug (c := ⟨5, 0, Z32, [], [t], []⟩) ⟨by simp, by simp [manyM]⟩ (by simp) h1 hs.2.2.1.1 (fun _ h => h) (fun G y hy => .le hy (up2 k)) (ih1 rfl hs.2.2.1.1 (by omega) h1)
  | true =>
   have hp : placeM (leM s t) = [] := by simp [leM, placeM, placeL, manyM, h1]
   have hk : kindM worldT (leM s t) [] = 2 := rfl
   refine .inr ?_
   unfold nextM
   rw [hp, hk];exact ⟨by decide, by decide, put1 k (h.vt h1) (by omega)⟩
 | de h =>
  rename_i G e T r
  intro hG hs hz hv
  obtain ⟨b, hb, ht⟩ := def_ty h e
  have hp : placeM (deM r) = [] := rfl
  have hk : kindM worldT (deM r) [] = 3 := by
   show cond (bodM r worldT).isSome 3 8 = 3
   rw [hb]; rfl
  refine .inr ?_
  unfold nextM
  rw [hp, hk]
  refine ⟨by decide, by decide, ?_⟩
  show HT [] e T ((bodM r worldT).getD noneM)
  rw [hb];exact ht
 | boo => intro _ _ _ hv; simp [coM, valM, valL] at hv
 | nil => intro _ _ _ hv; simp [coM, valM, valL] at hv
 | cons h k ih1 ih2 =>
  rename_i G e x s t
  intro hG hs hz hv
  subst hG
  simp only [coM, tsize, tsizeL, csizeL] at hz
  simp only [coM, shT, shL] at hs
  simp [coM, valM, valL] at hv
  cases h1 : valM s with
  | false => exact Goes.plug (c := ⟨8, 1, sumR 2, [], [t], []⟩) ⟨by simp, by simp [manyM]⟩ (by simp) h1 hs.2.2.1.1 (fun _ h => h) (fun G y hy => .cons hy (up1 k)) (ih1 rfl hs.2.2.1.1 (by omega) h1)
  | true => exact Goes.plug (c := ⟨8, 1, sumR 2, [s], [], []⟩) ⟨by simp [h1], by simp [manyM]⟩ (by simp) (hv h1) hs.2.2.1.2.1 (fun _ h => h) (fun G y hy => .cons (up1 h) hy) (ih2 rfl hs.2.2.1.2.1 (by omega) (hv h1))
 | none => intro _ _ _ hv; simp [coM, valM, valL] at hv
 | some h ih =>
  rename_i G e x s
  intro hG hs hz hv
  subst hG
  simp only [coM, tsize, tsizeL, csizeL] at hz
  simp only [coM, shT, shL] at hs
  simp [coM, valM, valL] at hv
  exact Goes.plug (c := ⟨8, 1, sumR 4, [], [], []⟩) ⟨by simp, by simp [manyM]⟩ (by simp) hv hs.2.2.1.1 (fun _ h => h) (fun G y hy => .some hy) (ih rfl hs.2.2.1.1 (by omega) hv)
 | pair h k ih1 ih2 =>
  rename_i G e x y s t
  intro hG hs hz hv
  subst hG
  simp only [coM, tsize, tsizeL, csizeL] at hz
  simp only [coM, shT, shL] at hs
  simp [coM, valM, valL] at hv
  cases h1 : valM s with
  | false => exact Goes.plug (c := ⟨8, 0, sumR 3, [], [t], []⟩) ⟨by simp, by simp [manyM]⟩ (by simp) h1 hs.2.2.1.1 (fun _ h => h) (fun G y hy => .pair hy (up1 k)) (ih1 rfl hs.2.2.1.1 (by omega) h1)
  | true => exact Goes.plug (c := ⟨8, 0, sumR 3, [s], [], []⟩) ⟨by simp [h1], by simp [manyM]⟩ (by simp) (hv h1) hs.2.2.1.2.1 (fun _ h => h) (fun G y hy => .pair (up1 h) hy) (ih2 rfl hs.2.2.1.2.1 (by omega) (hv h1))
 | pr h k ih1 ih2 =>
  rename_i G e n s t
  intro hG hs hz hv
  subst hG
  simp only [prM, tsize, tsizeL, csizeL] at hz
  simp only [prM, shT, shL] at hs
  cases h1 : valM s with
  | false => exact Goes.plug (c := ⟨10, n, Z32, [], [t], []⟩) ⟨by simp, by simp [manyM]⟩ (by simp) h1 hs.2.2.1.1 (fun _ h => h) (fun G y hy => .pr hy (up1 k)) (ih1 rfl hs.2.2.1.1 (by omega) h1)
  | true =>
   cases h2 : valM t with
   | false => exact Goes.plug (c := ⟨10, n, Z32, [s], [], []⟩) ⟨by simp [h1], by simp [manyM]⟩ (by simp) h2 hs.2.2.1.2.1 (fun _ h => h) (fun G y hy => .pr (up1 h) hy) (ih2 rfl hs.2.2.1.2.1 (by omega) h2)
   | true =>
    have hp : placeM (prM n s t) = [] := by simp [prM, placeM, placeL, h1, h2]
    have d1 := h.dv h1 rfl
    have d2 := k.dv h2 rfl
    cases d1 with
    | nat a =>
     cases d2 with
     | nat b =>
      have hk : kindM worldT (prM n (nuM a) (nuM b)) [] = 4 := rfl
      refine .inr ?_
      unfold nextM
      rw [hp, hk];exact ⟨by decide, by decide, .nu _⟩
 | ma D h hA hx hp k ih1 ih2 =>
  rename_i G e A T s cs
  intro hG hs hz hv
  subst hG
  simp only [maM, tsize, tsizeL, csizeL] at hz
  simp only [maM, shT, shL] at hs
  cases h1 : valM s with
  | false => exact Goes.plug (c := ⟨9, 0, Z32, [], [], cs⟩) ⟨by simp, by simp [manyM]⟩ (by simp) h1 hs.2.2.1.1 (fun _ h => h) (fun G y hy => .ma D hy hA hx hp (fun c hc => by
    have := (k c hc).wk G e (fun _ h => h)
    rwa [List.append_assoc] at this)) (ih1 rfl hs.2.2.1.1 (by omega) h1)
  | true =>
   have hp0 : placeM (maM s cs) = [] := by simp [maM, placeM, placeL, manyM, h1]
   have hd := h.dv h1 hA
   have hm := match_ty hd D hp (fun c hc => k c hc) (hx s hd) (by omega)
   have hk : kindM worldT (maM s cs) [] = 5 := by
    show cond ((matchM cs s).kind != 0) 5 8 = 5
    have : ((matchM cs s).kind != 0) = true := by simpa using hm.kind0
    rw [this]; rfl
   refine .inr ?_
   unfold nextM
   rw [hp0, hk];exact ⟨by decide, by decide, hm⟩
 | doo ha hn hT h ih =>
  rename_i G e a n T s
  intro hG hs hz hv
  subst hG hT
  simp only [doT, tsize, tsizeL, csizeL] at hz
  simp only [doT, shT, shL] at hs
  cases h1 : valM s with
  | false => exact Goes.plug (c := ⟨11, n, a.ref, [], [], []⟩) ⟨by simp, by simp [manyM]⟩ (by simp) h1 hs.2.2.1.1 (fun _ h => h) (fun G y hy => .doo ha hn rfl hy) (ih rfl hs.2.2.1.1 (by omega) h1)
  | true =>
   have hp : placeM (doT a.ref n s) = [] := by simp [doT, placeM, placeL, manyM, h1]
   refine .inl ?_;rw [hp];exact ⟨rfl, a, n, s, rfl, ha, hn, h.vt h1, fun G y hy => hy e⟩
 | ha hf ho h k l ih1 ih2 ih3 =>
  rename_i G e f a A T s t os
  intro hG hs hz hv
  subst hG
  have hsh := hs
  simp only [haM, tsize, tsizeL, csizeL] at hz
  simp only [haM, shT, shL] at hs
  cases h1 : valM s with
  | true =>
   have hp : placeM (haM a.ref (s :: t :: os)) = [] := by simp [haM, placeM, placeL, manyM, h1]
   have hk : kindM worldT (haM a.ref (s :: t :: os)) [] = 7 := rfl
   refine .inr ?_
   unfold nextM
   rw [hp, hk]
   refine ⟨by decide, by decide, ?_⟩
   show HT [] e T (putM [s] 0 t)
   exact (put1 k (h.vt h1) (by omega)).up [] hf
  | false =>
   have hsx := hs.2.2.1.1
   have hok := place_ok hsx
   have hR : ∀ (G : List YT) (y : Tm), HT G (a :: f) A y → ∀ e', f ⊆ e' → HT G e' T (haM a.ref (y :: t :: os)) := fun G y hy e' he => .ha he ho hy (up2 k) (fun o hm => up3 (l o hm))
   have hc : (⟨12, 0, a.ref, [], t :: os, []⟩ : Cx).Ok := ⟨by simp, by simp [manyM]⟩
   have ih := ih1 rfl hsx (by omega) h1
   have hpl : placeM (haM a.ref (s :: t :: os)) = 0 :: placeM s := place_plug hc h1
   have hw : walkM (haM a.ref (s :: t :: os)) (0 :: placeM s) = walkM s (placeM s) := walk_plug ⟨12, 0, a.ref, [], t :: os, []⟩ s (placeM s)
   have hh : ∀ y, hereM (haM a.ref (s :: t :: os)) (0 :: placeM s) y = haM a.ref (hereM s (placeM s) y :: t :: os) := fun y => here_plug ⟨12, 0, a.ref, [], t :: os, []⟩ hok y
   rcases ih with ⟨h9, b, n, v, hwk, hb, hn, hv2, hy⟩ | ⟨h17, h7, hn⟩
   ·have hk9 : kindM worldT (haM a.ref (s :: t :: os)) (0 :: placeM s) = _ := kind_nine (c := ⟨12, 0, a.ref, [], t :: os, []⟩) h9
    rw [hwk] at hk9
    by_cases hab : a = b
    ·subst hab
     have hkk : kindM worldT (haM a.ref (s :: t :: os)) (0 :: placeM s) = 6 := by
      rw [hk9, if_pos (by simp [doT, Tm.ref])]
      have : decide ((((⟨12, 0, a.ref, [], t :: os, []⟩ : Cx).plug s).kids.length : Int) > 2 + (doT a.ref n v).num) = true := by
       simp [Cx.plug, Tm.kids, doT, Tm.num, ho]; omega
      rw [this]; rfl
     refine .inr ?_
     unfold nextM
     rw [hpl, hkk]
     refine ⟨by decide, by decide, ?_⟩
     have hnl : n < os.length := by omega
     have hdo := doM_top (c := ⟨12, 0, a.ref, [], t :: os, []⟩) (x := s) (v := v) (b := os[n]) (p := placeM s) (hand_nine h9) (by rw [hwk]; simp [doT, Tm.ref]) (by rw [hwk]; rfl) (by
      rw [hwk]
      have e2 : (2 + (doT a.ref n v).num).toNat = n + 2 := by show (2 + (n : Int)).toNat = n + 2; omega
      rw [e2]
      simp [Cx.plug, Tm.kids, hnl])
     show HT [] e T (doM (haM a.ref (s :: t :: os)) (0 :: placeM s))
     have hdo' : doM (haM a.ref (s :: t :: os)) (0 :: placeM s) = putM [v, laM (hereM (haM a.ref (s :: t :: os)) (0 :: placeM s) varM)] 0 os[n] := hdo
     rw [hdo', hh]
     have hback : VT (.fn (.ba a.res) T f) (laM (haM a.ref (hereM s (placeM s) varM :: t :: os))) := by
      refine ⟨by simp [laM, valM], fun e' => .la ?_⟩
      exact hR _ _ (hy [.ba a.res] varM (fun f' => HT.va (n := 0) rfl)) f (fun _ h => h)
     have ho1 := l os[n] (List.getElem_mem hnl)
     have hz1 := tsize_mem (List.getElem_mem hnl)
     exact (ho1.put [] _ [v, laM (haM a.ref (hereM s (placeM s) varM :: t :: os))] rfl (vals2 hv2 hback) (by simp; omega)).up [] hf
    ·have hbf : b ∈ f := by
      rcases List.mem_cons.1 hb with rfl | hb
      ·exact absurd rfl hab
      ·exact hb
     refine .inl ?_;rw [hpl]
     refine ⟨?_, b, n, v, by rw [hw]; exact hwk, hf hbf, hn, hv2, fun G y hyy => ?_⟩
     ·rw [hk9, if_neg]
      simp only [doT, Tm.ref]
      cases a <;> cases b <;> first | exact absurd rfl hab | decide
     ·rw [hh]
      exact hR G _ (hy G y hyy) e hf
   ·refine .inr ?_
    have hkp : kindM worldT (haM a.ref (s :: t :: os)) (0 :: placeM s) = kindM worldT s (placeM s) := (kind_plug (ts := worldT) ⟨12, 0, a.ref, [], t :: os, []⟩ s (placeM s)).1 (by omega)
    have hnp : nextM worldT (haM a.ref (s :: t :: os)) = haM a.ref (nextM worldT s :: t :: os) := next_plug (c := ⟨12, 0, a.ref, [], t :: os, []⟩) hc hsx h1 (by omega)
    rw [hpl, hkp, hnp];exact ⟨h17, h7, hR [] _ hn e hf⟩
end Go.Proofs.YtkcgkignhpepkaaGreatDoor

/- What the maker makes has the type. -/
namespace Go.Proofs.YtkcgkignhpepkaaGreatDoor
open Go Hs
def TT.yt : TT → YT
 | .ba x => .ba x
 | .li x => .li x
 | .op x => .op x
 | .pa x y => .pa x y
 | .fn x => .fn (.ba .n) (.ba x) []
theorem same_tt {t u : TT} : sameTy t.ty u.ty = true → t = u := by
 rcases t with x | x | x | ⟨x, x'⟩ | x <;> rcases u with y | y | y | ⟨y, y'⟩ | y <;> cases x <;> cases y <;> (try cases x') <;> (try cases y') <;> first | exact fun _ => rfl | exact fun h => absurd h (by decide)
theorem same_lost (u : TT) : sameTy lostY u.ty = false := by
 rcases u with y | y | y | ⟨y, y'⟩ | y <;> cases y <;> (try cases y') <;> decide
structure Evy (v : List Ty) (G : List YT) : Prop where
 len : G.length = v.length
 get : ∀ (j : Nat) (u : Ty), v[j]? = some u → ∀ t : TT, sameTy u t.ty = true → G[v.length - 1 - j]? = some t.yt
theorem Evy.nil : Evy [] [] := ⟨rfl, by simp⟩
theorem Evy.add {v : List Ty} {G : List YT} (h : Evy v G) (w : Ty) (T : YT) (hw : ∀ t : TT, sameTy w t.ty = true → T = t.yt) : Evy (v ++ [w]) (T :: G) := by
 refine ⟨by simp [h.len], fun j u hj t ht => ?_⟩
 rw [List.length_append, List.length_singleton]
 by_cases hl : j < v.length
 ·rw [List.getElem?_append_left hl] at hj
  rw [show v.length + 1 - 1 - j = (v.length - 1 - j) + 1 by omega, List.getElem?_cons_succ];exact h.get j u hj t ht
 ·have hj' := (List.getElem?_eq_some_iff.1 hj).1
  simp at hj'
  obtain rfl : j = v.length := by omega
  simp at hj
  subst hj
  simp [hw t ht]
theorem Evy.snoc {v : List Ty} {G : List YT} (h : Evy v G) (t : TT) : Evy (v ++ [t.ty]) (t.yt :: G) := h.add _ _ fun u hu => by rw [same_tt hu]
theorem Evy.lost {v : List Ty} {G : List YT} (h : Evy v G) (T : YT) : Evy (v ++ [lostY]) (T :: G) := h.add _ _ fun u hu => by rw [same_lost] at hu; cases hu
theorem Evy.two {v : List Ty} {G : List YT} (h : Evy v G) (t u : TT) : Evy (v ++ [t.ty, u.ty]) (u.yt :: t.yt :: G) := by
 have := (h.snoc t).snoc u
 rwa [List.append_assoc] at this
theorem Evy.ask {v : List Ty} {G : List YT} (h : Evy v G) (T : YT) : Evy (v ++ [natY, lostY]) (T :: .ba .n :: G) := by
 have := (h.snoc (.ba .n)).lost T
 rwa [List.append_assoc] at this
theorem HT.eff {G : List YT} {e e' : List AB} {T : YT} {t : Tm} (h : HT G e T t) (he : e ⊆ e') : HT G e' T t := by
 have := h.wk [] e' he
 rwa [List.append_nil] at this
theorem sub_self (a : List AB) : a ⊆ a := fun _ h => h
theorem sub_nil (a : List AB) : [] ⊆ a := fun _ h => by cases h
class To (m : Mk) : Prop where
 h : ∀ (t : TT) (v : List Ty) (a : List AB) (s : Sd) (l : Int) (G : List YT), Evy v G → HT G a t.yt (m.f t v a s l).1
variable (bs : List Int)
theorem kn_ty (v : List Ty) (t : Ty) (i : Nat) : ∀ x ∈ knM v t i, ∃ (j : Nat) (u : Ty), v[j]? = some u ∧ sameTy u t = true ∧ x = vaM ((v.length : Int) - 1 - j) := by
 intro x hx
 unfold knM at hx
 rw [List.mem_filterMap] at hx
 obtain ⟨j, _, hj⟩ := hx
 split at hj
 ·rename_i u hu
  split at hj
  ·rename_i hs
   simp only [Option.some.injEq] at hj
   exact ⟨j, u, hu, hs, hj.symm⟩
  ·cases hj
 ·cases hj
theorem held_ty {v : List Ty} {G : List YT} (hG : Evy v G) (a : List AB) (t : TT) (s : Sd) (h : (heldM bs v t.ty s).1.2 = true) : HT G a t.yt (heldM bs v t.ty s).1.1 := by
 unfold heldM at h ⊢
 split at h
 ·cases h
 ·rename_i hl
  rw [if_neg hl]
  have hb := less_b bs s (n := ((knM v t.ty v.length).length : Int)) (by omega)
  have hlt : (lessM bs (knM v t.ty v.length).length s).1.toNat < (knM v t.ty v.length).length := by omega
  obtain ⟨j, u, hj, hs, he⟩ := kn_ty v t.ty v.length ((knM v t.ty v.length)[(lessM bs (knM v t.ty v.length).length s).1.toNat]'hlt) (List.getElem_mem _)
  simp only [List.getD_eq_getElem?_getD, List.getElem?_eq_getElem hlt, Option.getD_some]
  rw [he]
  have hjl := (List.getElem?_eq_some_iff.1 hj).1
  rw [show (v.length : Int) - 1 - j = ((v.length - 1 - j : Nat) : Int) by omega];exact .va (hG.get j u hj t hs)
theorem keep_ty {v : List Ty} {G : List YT} (hG : Evy v G) (a : List AB) (t : TT) (base : Sd → Tm × Sd) (hb : ∀ s, HT G a t.yt (base s).1) (s : Sd) : HT G a t.yt (keepM bs v t.ty base s).1 := by
 unfold keepM
 split
 ·rename_i h
  split
  ·exact held_ty bs hG a t s h
  ·exact hb _
 ·exact hb _
theorem two_b (s : Sd) : (lessM bs 2 s).1 = 0 ∨ (lessM bs 2 s).1 = 1 := by
 have := less_b bs s (n := 2) (by decide)
 omega
theorem base0_ty (G : List YT) (a : List AB) (x : BT) (s : Sd) : HT G a (.ba x) (base0M bs x s).1 := by
 cases x
 ·exact .nu _
 ·exact .boo (two_b bs s)
theorem leaf0_ty {v : List Ty} {G : List YT} (hG : Evy v G) (a : List AB) (x : BT) (s : Sd) : HT G a (.ba x) (leaf0M bs x v s).1 := keep_ty bs hG a (.ba x) _ (base0_ty bs G a x) s
theorem leaf_ty {v : List Ty} {G : List YT} (hG : Evy v G) (a : List AB) (t : TT) (s : Sd) : HT G a t.yt (leafM bs t v s).1 := by
 refine keep_ty bs hG a t _ (fun s => ?_) s
 cases t with
 | ba x => exact base0_ty bs G a x s
 | li x => exact .nil
 | op x => exact .none
 | pa x y => exact .pair (leaf0_ty bs hG a x s) (leaf0_ty bs hG a y _)
 | fn x => exact .la (leaf0_ty bs (hG.snoc (.ba .n)) [] x s)
theorem def21 {G : List YT} {e : List AB} : HT G e (.fn (.ba .n) (.ba .n) []) (deM (sumR 21)) := .de (by simp [defY])
theorem def22 {G : List YT} {e : List AB} : HT G e (.fn (.ba .n) (.fn (.ba .n) (.ba .n) []) []) (deM (sumR 22)) := .de (by simp [defY, sumR])
theorem def23 {G : List YT} {e : List AB} : HT G e (.fn (.li .n) (.ba .n) []) (deM (sumR 23)) := .de (by simp [defY, sumR])
theorem def24 {G : List YT} {e : List AB} : HT G e (.fn (.ba .n) (.ba .n) []) (deM (sumR 24)) := .de (by simp [defY, sumR])
variable (m : Mk) [hm : To m]
theorem made_ty {v : List Ty} {G : List YT} (hG : Evy v G) (t : TT) (a : List AB) (s : Sd) (l : Int) : HT G a t.yt (madeM bs m t v a s l).1 := by
 have h := fun t a s l => hm.h t v a s l G hG
 cases t with
 | ba x =>
  cases x with
  | n =>
   simp only [madeM]
   split
   ·exact .ap def21 (h (.ba .n) a _ _) (sub_nil a)
   split
   ·exact .ap (.ap def22 (h (.ba .n) a _ _) (sub_nil a)) (h (.ba .n) a _ _) (sub_nil a)
   split
   ·exact .ap def23 (h (.li .n) a _ _) (sub_nil a)
   split
   ·exact .ap def24 (.nu _) (sub_nil a)
   split
   ·exact .pr (h (.ba .n) a _ _) (h (.ba .n) a _ _)
   ·exact .nu _
  | b => exact .boo (two_b bs s)
 | li x =>
  simp only [madeM]
  split
  ·exact .cons (h (.ba x) a _ _) (h (.li x) a _ _)
  ·exact .nil
 | op x =>
  simp only [madeM]
  split
  ·exact .some (h (.ba x) a _ _)
  ·exact .none
 | pa x y => exact .pair (h (.ba x) a _ _) (h (.ba y) a _ _)
 | fn x => exact .la (hm.h (.ba x) _ [] s l _ (hG.snoc (.ba .n)))
theorem ask_ty {v : List Ty} {G : List YT} (hG : Evy v G) (t : TT) (a : List AB) (s : Sd) (l : Int) (hx : (askMk bs m t v a s l).1.2 = true) : HT G a t.yt (askMk bs m t v a s l).1.1 := by
 have h := fun t a s l => hm.h t v a s l G hG
 simp only [askMk] at hx ⊢
 split at hx
 ·cases hx
 rename_i h0
 rw [if_neg h0]
 have hb := less_b bs s (n := (a.length : Int)) (by omega)
 have hc : a.getD (lessM bs a.length s).1.toNat .ab ∈ a := by
  have hlt : (lessM bs a.length s).1.toNat < a.length := by omega
  rw [List.getD_eq_getElem?_getD, List.getElem?_eq_getElem hlt];exact List.getElem_mem hlt
 generalize a.getD (lessM bs a.length s).1.toNat .ab = c at hc hx ⊢
 split at hx
 ·rename_i h1
  rw [if_pos h1]
  have hT : t.yt = .ba c.res := by
   rcases h1 with ⟨rfl, hc⟩ | ⟨rfl, rfl⟩
   ·cases c
    ·rfl
    ·exact absurd rfl hc
    ·rfl
   ·rfl
  split
  ·rename_i hst
   subst hst
   obtain ⟨n, hn⟩ : ∃ n : Nat, (lessM bs 2 (lessM bs a.length s).2).1 = (n : Int) := ⟨(lessM bs 2 (lessM bs a.length s).2).1.toNat, by have := two_b bs (lessM bs a.length s).2; omega⟩
   have hn2 : n < AB.st.ops := by
    have := two_b bs (lessM bs a.length s).2
    simp only [AB.ops]; omega
   simp only [hn]
   exact .doo hc hn2 hT (h (.ba .n) a _ _)
  ·exact .doo (n := 0) hc (by cases c <;> simp [AB.ops]) hT (h (.ba .n) a _ _)
 ·cases hx
theorem pair_c {a b : Cs} {P : Cs → Prop} (ha : P a) (hb : P b) : ∀ c, c ∈ [a, b] → P c := fun c hc => by
 simp only [List.mem_cons, List.not_mem_nil, or_false] at hc
 rcases hc with rfl | rfl
 ·exact ha
 ·exact hb
theorem trio_c {a b d : Cs} {P : Cs → Prop} (ha : P a) (hb : P b) (hd : P d) : ∀ c, c ∈ [a, b, d] → P c := fun c hc => by
 simp only [List.mem_cons, List.not_mem_nil, or_false] at hc
 rcases hc with rfl | rfl | rfl
 ·exact ha
 ·exact hb
 ·exact hd
theorem match_ty2 {v : List Ty} {G : List YT} (hG : Evy v G) (t : TT) (a : List AB) (s : Sd) (l : Int) : HT G a t.yt (matchMk bs m t v a s l).1 := by
 have h := fun t a s l => hm.h t v a s l G hG
 have h1 := fun t a s l u => hm.h t _ a s l _ (hG.snoc u)
 have h2 := fun t a s l u w => hm.h t _ a s l _ (hG.two u w)
 simp only [matchMk]
 generalize (plain0M bs s).1 = u
 split
 ·refine .ma (A := .ba .n) (fun c => [YT.ba .n].take (bindsM (csP c)).toNat) (h (.ba .n) a _ _) rfl (fun w _ => ⟨_, List.mem_cons_of_mem _ (List.mem_singleton.2 rfl), rfl⟩) (pair_c (.nat _) (.any _)) (pair_c (h t a _ _) (h1 t a _ _ (.ba .n)))
 split
 ·refine .ma (A := .ba .b) (fun c => [YT.ba .b].take (bindsM (csP c)).toNat) (h (.ba .b) a _ _) rfl (fun w _ => ⟨_, List.mem_cons_of_mem _ (List.mem_singleton.2 rfl), rfl⟩) (pair_c (.boo _) (.any _)) (pair_c (h t a _ _) (h1 t a _ _ (.ba .b)))
 split
 ·refine .ma (A := .li u) (fun c => [YT.ba u, .li u].take (bindsM (csP c)).toNat) (h (.li u) a _ _) rfl (fun w hw => ?_) (trio_c (.nil _) (.cons (.any _) (.nil _)) (.cons (.any _) (.any _))) (trio_c (h t a _ _) (h1 t a _ _ (.ba u)) (h2 t a _ _ (.ba u) (.li u)))
  cases hw with
  | nil => exact ⟨_, List.mem_cons_self, rfl⟩
  | cons _ _ => exact ⟨_, List.mem_cons_of_mem _ (List.mem_cons_of_mem _ List.mem_cons_self), rfl⟩
 split
 ·refine .ma (A := .op u) (fun c => [YT.ba u].take (bindsM (csP c)).toNat) (h (.op u) a _ _) rfl (fun w hw => ?_) (pair_c (.some (.any _)) (.none _)) (pair_c (h1 t a _ _ (.ba u)) (h t a _ _))
  cases hw with
  | none => exact ⟨_, List.mem_cons_of_mem _ List.mem_cons_self, rfl⟩
  | some _ => exact ⟨_, List.mem_cons_self, rfl⟩
 split
 ·refine .ma (A := .pa u .n) (fun c => [YT.ba u, .ba .n].take (bindsM (csP c)).toNat) (h (.pa u .n) a _ _) rfl (fun w hw => ?_) (pair_c (.pair (.any _) (.nat _)) (.pair (.any _) (.any _))) (pair_c (h1 t a _ _ (.ba u)) (h2 t a _ _ (.ba u) (.ba .n)))
  cases hw with
  | pair _ _ => exact ⟨_, List.mem_cons_of_mem _ List.mem_cons_self, rfl⟩
 ·refine .ma (A := .ba .b) (fun c => []) (h (.ba .b) a _ _) rfl (fun w hw => ?_) (pair_c (.boo _) (.boo _)) (pair_c (h t a _ _) (h t a _ _))
  cases hw with
  | boo n hn =>
   rcases hn with rfl | rfl
   ·exact ⟨_, List.mem_cons_self, rfl⟩
   ·exact ⟨_, List.mem_cons_of_mem _ List.mem_cons_self, rfl⟩
theorem clause_ty {v : List Ty} {G : List YT} (hG : Evy v G) (t : TT) (a : List AB) (b : BT) (s : Sd) (l : Int) : HT (.fn (.ba b) t.yt a :: .ba .n :: G) a t.yt (clauseM bs m t v a b s l).1 := by
 have hE := hG.ask (.fn (.ba b) t.yt a)
 have h := fun t a s l => hm.h t _ a s l _ hE
 have h1 := fun t' a s l => hm.h t' _ a s l _ (hE.snoc t)
 have ha : ∀ s l, HT (.fn (.ba b) t.yt a :: .ba .n :: G) a t.yt (apM (vaM 0) (m.f (.ba b) (v ++ [natY, lostY]) a s l).1) := fun s l => .ap (f := a) (.va (n := 0) rfl) (h (.ba b) a s l) (sub_self a)
 simp only [clauseM]
 split
 ·split
  ·exact .le (ha _ _) (h1 t a _ _)
  ·exact ha _ _
 ·split
  ·exact .le (h t a _ _) (h1 t a _ _)
  ·exact h t a _ _
theorem clauses_ty {v : List Ty} {G : List YT} (hG : Evy v G) (t : TT) (a : List AB) (b : BT) (s : Sd) (l : Int) : ∀ i : Nat, (clausesM bs m t v a b s l i).1.length = i ∧ ∀ o, o ∈ (clausesM bs m t v a b s l i).1 → HT (.fn (.ba b) t.yt a :: .ba .n :: G) a t.yt o
 | 0 => ⟨rfl, fun o ho => by simp [clausesM] at ho⟩
 | i + 1 => by
  obtain ⟨h1, h2⟩ := clauses_ty hG t a b s l i
  refine ⟨by simp [clausesM, h1], fun o ho => ?_⟩
  simp only [clausesM, List.mem_append, List.mem_singleton] at ho
  rcases ho with ho | rfl
  ·exact h2 o ho
  ·exact clause_ty bs m hG t a b _ _
theorem handle_ty {v : List Ty} {G : List YT} (hG : Evy v G) (t : TT) (a : List AB) (s : Sd) (l : Int) : HT G a t.yt (handleMk bs m t v a s l).1 := by
 simp only [handleMk]
 split
 ·exact made_ty bs m hG t a _ _
 ·generalize abM (lessM bs 3 s).1 = c
  have hbk : (if c = .fl then BT.b else .n) = c.res := by cases c <;> rfl
  have hop : (if c = .st then 2 else 1) = c.ops := by cases c <;> rfl
  rw [hbk, hop]
  obtain ⟨k1, k2⟩ := clauses_ty bs m hG t a c.res (m.f t (v ++ [(plain0M bs (seldomM bs 4 (lessM bs 3 s).2).2).1.ty]) a (m.f (.ba (plain0M bs (seldomM bs 4 (lessM bs 3 s).2).2).1) v (if c ∈ a then a else a ++ [c]) (plain0M bs (seldomM bs 4 (lessM bs 3 s).2).2).2 l).2.1 (m.f (.ba (plain0M bs (seldomM bs 4 (lessM bs 3 s).2).2).1) v (if c ∈ a then a else a ++ [c]) (plain0M bs (seldomM bs 4 (lessM bs 3 s).2).2).2 l).2.2).2.1 (m.f t (v ++ [(plain0M bs (seldomM bs 4 (lessM bs 3 s).2).2).1.ty]) a (m.f (.ba (plain0M bs (seldomM bs 4 (lessM bs 3 s).2).2).1) v (if c ∈ a then a else a ++ [c]) (plain0M bs (seldomM bs 4 (lessM bs 3 s).2).2).2 l).2.1 (m.f (.ba (plain0M bs (seldomM bs 4 (lessM bs 3 s).2).2).1) v (if c ∈ a then a else a ++ [c]) (plain0M bs (seldomM bs 4 (lessM bs 3 s).2).2).2 l).2.2).2.2 c.ops
  refine .ha (A := .ba (plain0M bs (seldomM bs 4 (lessM bs 3 s).2).2).1) (sub_self a) k1 ((hm.h (.ba _) v _ _ _ G hG).eff (fun x hx => ?_)) (hm.h t _ a _ _ _ (hG.snoc (.ba _))) k2
  split at hx
  ·exact List.mem_cons_of_mem _ hx
  ·rcases List.mem_append.1 hx with hx | hx
   ·exact List.mem_cons_of_mem _ hx
   ·rw [List.mem_singleton.1 hx]; exact List.mem_cons_self
theorem node_ty {v : List Ty} {G : List YT} (hG : Evy v G) (t : TT) (a : List AB) (s : Sd) (l : Int) : HT G a t.yt (nodeM bs m t v a s l).1 := by
 simp only [nodeM]
 split
 ·split
  ·rename_i h; exact held_ty bs hG a t _ h
  ·exact made_ty bs m hG t a _ _
 split
 ·exact .le (hm.h _ v a _ _ G hG) (hm.h t _ a _ _ _ (hG.snoc _))
 split
 ·exact .ap (f := a) (.la (hm.h t _ a _ _ _ (hG.snoc _))) (hm.h _ v a _ _ G hG) (sub_self a)
 split
 ·exact match_ty2 bs m hG t a _ _
 split
 ·split
  ·rename_i h; exact ask_ty bs m hG t a _ _ h
  ·exact made_ty bs m hG t a _ _
 split
 ·exact handle_ty bs m hG t a _ _
 ·exact made_ty bs m hG t a _ _
instance term_to : ∀ n : Nat, To (termMk bs n)
 | 0 => ⟨fun t v a s l G hG => by simp only [termMk]; exact leaf_ty bs hG a t s⟩
 | n + 1 => ⟨fun t v a s l G hG => by
  have ih := term_to n
  simp only [termMk]
  split
  ·exact leaf_ty bs hG a t s
  ·exact node_ty bs (termMk bs n) hG t a s _⟩
theorem typed_ty (size : Nat) (t : TT) (a : List AB) (s : Sd) : HT [] a t.yt (typedM bs size t a s).1 := (term_to bs size).h t [] a s size [] .nil
end Go.Proofs.YtkcgkignhpepkaaGreatDoor

/- StepSafe: the values of types. -/
namespace Go.Proofs.YtkcgkignhpepkaaGreatDoor
open Go Hs
end Go.Proofs.YtkcgkignhpepkaaGreatDoor

/- StepSafe: the plain law and the walk. -/
namespace Go.Proofs.YtkcgkignhpepkaaGreatDoor
open Go Hs
theorem rt_next {ts : List KT} (hb : ∀ x ∈ ts, Rt x.2) {t : Tm} (h : Rt t) (hN : tsize t < 2^28) (hk7 : kindM ts t (placeM t) ≤ 7) : Rt (nextM ts t) := does_rt hb h hN rfl hk7
theorem ran_safe {T : YT} : ∀ (a s : Nat) (u : Tm), HT [] [] T u → Rt u → tsize u ≤ 3000 →
  (ranM worldT a s u).2 = 12 ∨ (ranM worldT a s u).2 = 0 ∧ ((ranM worldT a s u).1.kind = 10 ∧ (ranM worldT a s u).1.steps = ((a + s : Nat) : Int) ∨ (ranM worldT a s u).1.kind = 0 ∧ VT T (ranM worldT a s u).1.term ∧ Rt (ranM worldT a s u).1.term) := by
 intro a
 induction a with
 | zero =>
  intro s u h hr hz
  refine .inr ?_
  cases hv : valM u with
  | true =>
   rw [ran_some (e := ⟨0, s, u, Z32, 0⟩) (by simp [ranE, hv])];exact ⟨rfl, .inr ⟨rfl, h.vt hv, hr⟩⟩
  | false =>
   rcases h.goes rfl (gd_sh hr.gd) (by omega) hv with ⟨_, b, n, v, _, hb, _⟩ | ⟨h1, h7, _⟩
   ·cases hb
   ·have hE : ranE worldT s u = none := ranE_none hv (by omega) s
    simp only [ranM, hE]
    exact ⟨trivial, .inl ⟨trivial, by simp⟩⟩
 | succ a ih =>
  intro s u h hr hz
  cases hv : valM u with
  | true =>
   refine .inr ?_;rw [ran_some (e := ⟨0, s, u, Z32, 0⟩) (by simp [ranE, hv])];exact ⟨rfl, .inr ⟨rfl, h.vt hv, hr⟩⟩
  | false =>
   rcases h.goes rfl (gd_sh hr.gd) (by omega) hv with ⟨_, b, n, v, _, hb, _⟩ | ⟨h1, h7, hn⟩
   ·cases hb
   ·have hE : ranE worldT s u = none := ranE_none hv (by omega) s
    simp only [ranM, hE]
    cases hl : (longT 3000 200 1 0 (nextM worldT u)).1 with
    | true => exact .inl rfl
    | false =>
     have hz2 := long_size (t := nextM worldT u) (d := 1) (c := 0) (by decide) hl
     have := ih (s + 1) (nextM worldT u) hn (rt_next world_rt hr (by omega) h7) (by omega)
     rw [show a + 1 + s = a + (s + 1) by omega]
     simpa using this
theorem run_safe {T : YT} {t : Tm} (h : HT [] [] T t) (hr : Rt t) {fuel : Int} (hf : 0 ≤ fuel ∧ fuel ≤ 2000) :
  ((runM worldT t fuel).2 = 11 ∨ (runM worldT t fuel).2 = 12) ∨ (runM worldT t fuel).2 = 0 ∧ ((runM worldT t fuel).1.kind = 10 ∧ (runM worldT t fuel).1.steps = fuel ∨ (runM worldT t fuel).1.kind = 0 ∧ VT T (runM worldT t fuel).1.term ∧ Rt (runM worldT t fuel).1.term) := by
 unfold runM
 by_cases hc : stepCheckM worldT t = 0
 ·rw [if_pos hc, if_neg (by omega)]
  have hz := (Gt.size ⟨hr, hc⟩)
  have hs := ran_safe (T := T) fuel.toNat 0 t h hr (by omega)
  generalize ranM worldT fuel.toNat 0 t = W at hs
  obtain ⟨W, e⟩ := W
  dsimp only at hs ⊢
  rcases hs with rfl | ⟨rfl, hs⟩
  ·exact .inl (.inr rfl)
  ·rw [if_pos rfl]
   rcases hs with ⟨hk, hst⟩ | ⟨hk, hv, hrt⟩
   ·rw [if_pos (by omega)]
    exact .inr ⟨rfl, .inl ⟨hk, by rw [hst]; omega⟩⟩
   ·rw [if_neg (by omega)]
    by_cases hc2 : checkM W.term 60 8 = 0
    ·rw [if_pos hc2]
     exact .inr ⟨rfl, .inr ⟨hk, hv, hrt⟩⟩
    ·rw [if_neg hc2]
     exact .inl (.inl rfl)
 ·rw [if_neg hc]
  refine .inl (.inl ?_)
  show stepCheckM worldT t = 11
  rw [world_check, hr.check] at hc ⊢
  cases hl : (longT 300 60 1 0 t).1
  ·rw [hl] at hc; simp at hc
  ·rfl
end Go.Proofs.YtkcgkignhpepkaaGreatDoor

/- StepResumed: the plain law. -/
namespace Go.Proofs.YtkcgkignhpepkaaGreatDoor
open Go Hs
inductive Runs (ts : List KT) : Nat → Tm → Tm → Prop
 | zero (t : Tm) : Runs ts 0 t t
 | succ {j : Nat} {t u : Tm} (hs : shT t) (hv : valM t = false) (h1 : 1 ≤ kindM ts t (placeM t)) (h7 : kindM ts t (placeM t) ≤ 7) (r : Runs ts j (nextM ts t) u) : Runs ts (j + 1) t u
theorem Runs.trans {ts : List KT} {i j : Nat} {t u v : Tm} (h : Runs ts i t u) (k : Runs ts j u v) : ∃ n, Runs ts n t v := by
 induction h with
 | zero => exact ⟨j, k⟩
 | succ hs hv h1 h7 _ ih =>
  obtain ⟨n, hn⟩ := ih k
  exact ⟨n + 1, .succ hs hv h1 h7 hn⟩
theorem Runs.ctx {ts : List KT} {f : Tm → Tm} {a : List Nat} (A : Ard ts f a) {j : Nat} {t u : Tm} (h : Runs ts j t u) : Runs ts j (f t) (f u) := by
 induction h with
 | zero => exact .zero _
 | succ hs hv h1 h7 _ ih =>
  have hk := (A.kind _ hs hv).1 (by omega)
  refine .succ (A.sh _ hs) (A.val _ hv) (by rw [hk]; exact h1) (by rw [hk]; exact h7) ?_;rw [A.next _ hs hv (by omega)];exact ih
theorem Runs.ran {ts : List KT} {j : Nat} {t u : Tm} (h : Runs ts j t u) : ∀ (a s : Nat), (ranM ts a s t).2 = 12 ∨ ((ranM ts a s t).2 = 0 ∧ (ranM ts a s t).1.kind = 10) ∨ (j ≤ a ∧ ranM ts a s t = ranM ts (a - j) (s + j) u) := by
 induction h with
 | zero => intro a s; exact .inr (.inr ⟨Nat.zero_le _, rfl⟩)
 | succ hs hv h1 h7 _ ih =>
  intro a s
  have hE := ranE_none (ts := ts) hv (by omega) s
  cases a with
  | zero =>
   simp only [ranM, hE]
   exact .inr (.inl ⟨trivial, trivial⟩)
  | succ a =>
   simp only [ranM, hE]
   split
   ·exact .inl rfl
   ·rcases ih a (s + 1) with h | h | ⟨h, e⟩
    ·exact .inl h
    ·exact .inr (.inl h)
    ·refine .inr (.inr ⟨by omega, ?_⟩)
     rw [e]
     congr 1 <;> omega
theorem ranE_end {ts : List KT} {s : Nat} {t : Tm} {e : EndM} (h : ranE ts s t = some e) (hk : e.kind = 0) : valM t = true ∧ e.term = t := by
 unfold ranE at h
 by_cases hv : valM t = true
 ·rw [if_pos hv] at h
  simp at h
  subst h;exact ⟨hv, rfl⟩
 ·rw [if_neg hv] at h
  split at h
  ·simp at h; subst h; simp at hk
  ·split at h
   ·simp at h; subst h; simp at hk
   ·cases h
theorem ranE_go {ts : List KT} {s : Nat} {t : Tm} (h : ranE ts s t = none) : valM t = false ∧ 1 ≤ kindM ts t (placeM t) ∧ kindM ts t (placeM t) ≤ 7 := by
 have h19 := kind19 (ts := ts) (t := t)
 unfold ranE at h
 by_cases hv : valM t = true
 ·rw [if_pos hv] at h; cases h
 ·rw [if_neg hv] at h
  refine ⟨by simpa using hv, ?_⟩
  split at h
  ·cases h
  ·split at h
   ·cases h
   ·omega
theorem ran_runs : ∀ (a s : Nat) (t : Tm), Rt t → tsize t ≤ 3000 → (ranM worldT a s t).2 = 0 → (ranM worldT a s t).1.kind = 0 → ∃ j, Runs worldT j t (ranM worldT a s t).1.term := by
 intro a
 induction a with
 | zero =>
  intro s t hr hz h0 hk
  rcases hE : ranE worldT s t with _ | e
  ·simp only [ranM, hE] at hk
   simp at hk
  ·simp only [ranM, hE] at hk ⊢
   rw [(ranE_end hE hk).2];exact ⟨0, .zero _⟩
 | succ a ih =>
  intro s t hr hz h0 hk
  rcases hE : ranE worldT s t with _ | e
  ·obtain ⟨hv, h1, h7⟩ := ranE_go hE
   simp only [ranM, hE] at h0 hk ⊢
   cases hl : (longT 3000 200 1 0 (nextM worldT t)).1 with
   | true => rw [hl] at h0; simp at h0
   | false =>
    have hz2 := long_size (t := nextM worldT t) (d := 1) (c := 0) (by decide) hl
    rw [hl] at h0 hk
    obtain ⟨j, hj⟩ := ih (s + 1) (nextM worldT t) (rt_next world_rt hr (by omega) h7) (by omega) (by simpa using h0) (by simpa using hk)
    exact ⟨j + 1, .succ (gd_sh hr.gd) hv h1 h7 (by simpa using hj)⟩
  ·simp only [ranM, hE] at hk ⊢
   rw [(ranE_end hE hk).2];exact ⟨0, .zero _⟩
def totF (f : Tm) (l : List Int) : Tm := l.foldl (fun t n => prM 1 t (apM f (nuM n))) (nuM 0)
theorem tot_snoc (f : Tm) (l : List Int) (n : Int) : totF f (l ++ [n]) = prM 1 (totF f l) (apM f (nuM n)) := by simp [totF]
theorem list_snoc {P : List Int → Prop} (h0 : P []) (h1 : ∀ l n, P l → P (l ++ [n])) (l : List Int) : P l := by
 have : ∀ k (l : List Int), l.length = k → P l := by
  intro k
  induction k with
  | zero => intro l hl; rw [List.length_eq_zero_iff.1 hl]; exact h0
  | succ k ih =>
   intro l hl
   have hne : l ≠ [] := by intro e; subst e; simp at hl
   rw [← List.dropLast_concat_getLast hne];exact h1 _ _ (ih _ (by simp [hl]))
 exact this _ l rfl
theorem put_nu (vs : List Tm) (d n : Int) : putM vs d (nuM n) = nuM n := by
 simp only [nuM, putM, putK, putC]
 rw [dif_neg (fun h => absurd h.1 (by decide))]
theorem put_ap (vs : List Tm) (d : Int) (s t : Tm) : putM vs d (apM s t) = apM (putM vs d s) (putM vs d t) := by
 simp only [apM, putM, putK, putC]
 rw [dif_neg (fun h => absurd h.1 (by decide))]
 simp [moreM]
theorem put_pr (vs : List Tm) (d n : Int) (s t : Tm) : putM vs d (prM n s t) = prM n (putM vs d s) (putM vs d t) := by
 simp only [prM, putM, putK, putC]
 rw [dif_neg (fun h => absurd h.1 (by decide))]
 simp [moreM]
theorem put_va0 (x y : Tm) : putM [x, y] 0 (vaM 0) = y := by
 simp only [vaM, putM]
 have hw : IntKind.i64.wrap ((0 : Int) - 0) = 0 := by decide
 rw [dif_pos ⟨trivial, by rw [hw]; decide, by simp⟩, dif_pos (by rw [hw]; simp)]
 have hw0 : IntKind.i64.wrap (0 : Int) = 0 := by decide
 simp [hw0]
theorem put_va1 (x : Tm) : putM [x] 0 (vaM 0) = x := by
 simp only [vaM, putM]
 have hw : IntKind.i64.wrap ((0 : Int) - 0) = 0 := by decide
 rw [dif_pos ⟨trivial, by rw [hw]; decide, by simp⟩, dif_pos (by rw [hw]; simp)]
 have hw0 : IntKind.i64.wrap (0 : Int) = 0 := by decide
 simp [hw0]
theorem put_vaS (vs : List Tm) {d : Int} (h : d = 1 ∨ d = 2) : putM vs d (vaM 0) = vaM 0 := by
 simp only [vaM, putM, putK, putC]
 rw [dif_neg (fun h' => by
  rcases h with rfl | rfl
  ·exact absurd h'.2.1 (by decide)
  ·exact absurd h'.2.1 (by decide))]
theorem put_tot (x y : Tm) (l : List Int) : putM [x, y] 0 (totF (vaM 0) l) = totF y l := by
 induction l using list_snoc with
 | h0 => exact put_nu _ _ _
 | h1 l n ih => rw [tot_snoc, tot_snoc, put_pr, put_ap, put_va0, put_nu, ih]
theorem put_tot2 (vs : List Tm) (l : List Int) : putM vs 2 (totF (vaM 0) l) = totF (vaM 0) l := by
 induction l using list_snoc with
 | h0 => exact put_nu _ _ _
 | h1 l n ih => rw [tot_snoc, put_pr, put_ap, put_vaS _ (.inr rfl), put_nu, ih]
theorem sh_tot (f : Tm) (hf : shT f) (l : List Int) : shT (totF f l) := by
 induction l using list_snoc with
 | h0 => simp [totF, nuM, shT, shL, shC, kidsM]
 | h1 l n ih => rw [tot_snoc]; simp [prM, apM, nuM, shT, shL, shC, kidsM, hf, ih]
def bkM (B tot : Tm) : Tm := laM (haM (sumR 11) [apM (laM B) (vaM 0), vaM 0, tot])
def askedM (B : Tm) (l : List Int) : Tm := haM (sumR 11) [apM (laM B) (doT (sumR 11) 0 (nuM 9)), vaM 0, totF (vaM 0) l]
inductive Res (B : Tm) : List Int → Int → Prop
 | nil : Res B [] 0
 | snoc {l : List Int} {w n v : Int} (h : Res B l w) (r : ∃ j, Runs worldT j (apM (laM B) (nuM n)) (nuM v)) (hv : 0 ≤ v ∧ v ≤ 1073741824) : Res B (l ++ [n]) (if 1073741824 < w + v then 1073741824 else w + v)
theorem Res.b {B : Tm} {l : List Int} {w : Int} (h : Res B l w) : 0 ≤ w ∧ w ≤ 1073741824 := by
 induction h with
 | nil => decide
 | snoc _ _ hv ih => split <;> omega
theorem Runs.one {ts : List KT} {t u : Tm} (hs : shT t) (hv : valM t = false) (k : Int) (hk : kindM ts t (placeM t) = k) (hb : 1 ≤ k ∧ k ≤ 7) (hn : nextM ts t = u) : Runs ts 1 t u := by
 subst hn;exact .succ hs hv (by omega) (by omega) (.zero _)
theorem back_runs {B : Tm} (hB : Rt (laM B)) (hz : tsize (laM B) < 2^28) (l : List Int) {n v : Int} (r : ∃ j, Runs worldT j (apM (laM B) (nuM n)) (nuM v)) : ∃ j, Runs worldT j (apM (bkM B (totF (vaM 0) l)) (nuM n)) (nuM v) := by
 obtain ⟨j, r⟩ := r
 have hsB := gd_sh hB.gd
 have hsv : shT (vaM 0) := by simp [vaM, shT, shL, shC, kidsM]
 have hst := sh_tot (vaM 0) hsv l
 generalize htt : totF (vaM 0) l = tot at hst
 have hp2 : putM [nuM n] 2 tot = tot := by rw [← htt]; exact put_tot2 _ l
 have hc : (⟨12, 0, sumR 11, [], [vaM 0, tot], []⟩ : Cx).Ok := ⟨by simp, by simp [manyM]⟩
 have A := Cx.ard hc worldT (fun x hx => by simp [Cx.plug, shT, shL, shC, kidsM, offM, hx, hst, hsv])
 have hs1 : shT (apM (bkM B tot) (nuM n)) := by
  simp only [laM] at hsB
  simp only [shT, shL, shC] at hsB
  simp [bkM, apM, laM, haM, nuM, shT, shL, shC, kidsM, offM, hst, hsv, hsB]
 have r1 : Runs worldT 1 (apM (bkM B tot) (nuM n)) (haM (sumR 11) [apM (laM B) (nuM n), vaM 0, tot]) := by
  refine .one hs1 rfl 1 rfl (by decide) ?_
  show putM [nuM n] 0 (haM (sumR 11) [apM (laM B) (vaM 0), vaM 0, tot]) = _
  simp only [haM, putM, putK, putC]
  rw [dif_neg (fun h => absurd h.1 (by decide))]
  simp only [show moreM 12 ((0 : Nat) : Int) = 0 by simp [moreM], show moreM 12 ((0 + 1 : Nat) : Int) = 1 by simp [moreM], show moreM 12 ((0 + 1 + 1 : Nat) : Int) = 2 by simp [moreM], Int.add_zero, Int.zero_add]
  rw [put_ap, put_va1, put_vaS _ (.inl rfl), hp2, put_closed [nuM n] (laM B) 0 0 hB.gd (Int.le_refl _) (Int.le_refl _) (by omega)]
 have r2 : Runs worldT j (haM (sumR 11) [apM (laM B) (nuM n), vaM 0, tot]) (haM (sumR 11) [nuM v, vaM 0, tot]) := r.ctx A
 have r3 : Runs worldT 1 (haM (sumR 11) [nuM v, vaM 0, tot]) (nuM v) := by
  refine .one ?_ rfl 7 rfl (by decide) ?_
  ·simp [haM, nuM, shT, shL, shC, kidsM, offM, hst, hsv]
  ·exact put_va1 _
 obtain ⟨_, r4⟩ := r1.trans r2
 exact r4.trans r3
theorem prim_sum {w v : Int} (hw : 0 ≤ w ∧ w ≤ 1073741824) (hv : 0 ≤ v ∧ v ≤ 1073741824) : primM 1 w v = nuM (if 1073741824 < w + v then 1073741824 else w + v) := by
 have h : IntKind.i64.wrap (w + v) = w + v := wrap64 (by omega) (by omega)
 have hn : ¬ (w + v < 0) := by omega
 simp only [primM, primV, capM, if_true, h, natM, nuM, if_neg hn]
theorem tot_runs {B : Tm} (hB : Rt (laM B)) (hz : tsize (laM B) < 2^28) (l : List Int) {m : List Int} {w : Int} (h : Res B m w) : ∃ j, Runs worldT j (totF (bkM B (totF (vaM 0) l)) m) (nuM w) := by
 induction h with
 | nil => exact ⟨0, .zero _⟩
 | snoc h r hv ih =>
  rename_i m w n v
  have hw := h.b
  obtain ⟨i, ri⟩ := ih
  obtain ⟨j, rj⟩ := back_runs hB hz l r
  have hsB := gd_sh hB.gd
  have hsv : shT (vaM 0) := by simp [vaM, shT, shL, shC, kidsM]
  have hst := sh_tot (vaM 0) hsv l
  generalize hbk : bkM B (totF (vaM 0) l) = bk at ri rj ⊢
  have hsb : shT bk := by
   rw [← hbk]
   simp only [laM] at hsB
   simp only [shT, shL, shC] at hsB
   simp [bkM, apM, laM, haM, shT, shL, shC, kidsM, offM, hst, hsv, hsB]
  rw [tot_snoc]
  have hsn : ∀ n, shT (nuM n) := fun n => by simp [nuM, shT, shL, shC, kidsM]
  have hsa : shT (apM bk (nuM n)) := by simp [apM, shT, shL, shC, kidsM, hsb, hsn]
  have A1 := Cx.ard (c := ⟨10, 1, Z32, [], [apM bk (nuM n)], []⟩) ⟨by simp, by simp [manyM]⟩ worldT (fun x hx => by simp [Cx.plug, shT, shL, shC, kidsM, hx, hsa])
  have A2 := Cx.ard (c := ⟨10, 1, Z32, [nuM w], [], []⟩) ⟨by simp [nuM, valM], by simp [manyM]⟩ worldT (fun x hx => by simp [Cx.plug, shT, shL, shC, kidsM, hx, hsn])
  have r1 : Runs worldT i (prM 1 (totF bk m) (apM bk (nuM n))) (prM 1 (nuM w) (apM bk (nuM n))) := ri.ctx A1
  have r2 : Runs worldT j (prM 1 (nuM w) (apM bk (nuM n))) (prM 1 (nuM w) (nuM v)) := rj.ctx A2
  have r3 : Runs worldT 1 (prM 1 (nuM w) (nuM v)) (nuM (if 1073741824 < w + v then 1073741824 else w + v)) := by
   refine .one ?_ rfl 4 rfl (by decide) ?_
   ·simp [prM, shT, shL, shC, kidsM, hsn]
   ·rw [← prim_sum hw hv]; rfl
  obtain ⟨_, r4⟩ := r1.trans r2
  exact r4.trans r3
theorem asked_runs {B : Tm} (hB : Rt (laM B)) (hz : tsize (laM B) < 2^28) {l : List Int} {w : Int} (h : Res B l w) : ∃ j, Runs worldT j (askedM B l) (nuM w) := by
 obtain ⟨j, r⟩ := tot_runs hB hz l h
 have hsB := gd_sh hB.gd
 have hsv : shT (vaM 0) := by simp [vaM, shT, shL, shC, kidsM]
 have hst := sh_tot (vaM 0) hsv l
 have r1 : Runs worldT 1 (askedM B l) (totF (bkM B (totF (vaM 0) l)) l) := by
  refine .one ?_ rfl 6 rfl (by decide) ?_
  ·simp only [laM] at hsB
   simp only [shT, shL, shC] at hsB
   simp [askedM, apM, laM, haM, doT, nuM, shT, shL, shC, kidsM, offM, hst, hsv, hsB]
  ·show putM [nuM 9, bkM B (totF (vaM 0) l)] 0 (totF (vaM 0) l) = _
   exact put_tot _ _ l
 exact r1.trans r
theorem asked_law {B : Tm} (hB : Rt (laM B)) (hz : tsize (laM B) < 2^28) {l : List Int} {w : Int} (h : Res B l w) (hr : Rt (askedM B l)) :
  ((runM worldT (askedM B l) 2000).2 = 11 ∨ (runM worldT (askedM B l) 2000).2 = 12) ∨ (runM worldT (askedM B l) 2000).2 = 0 ∧ ((runM worldT (askedM B l) 2000).1.kind = 10 ∨ (runM worldT (askedM B l) 2000).1.kind = 0 ∧ (runM worldT (askedM B l) 2000).1.term = nuM w) := by
 obtain ⟨j, r⟩ := asked_runs hB hz h
 unfold runM
 by_cases hc : stepCheckM worldT (askedM B l) = 0
 ·rw [if_pos hc, if_neg (by decide)]
  rcases r.ran (2000 : Int).toNat 0 with h | ⟨h, hk⟩ | ⟨_, e⟩
  ·rw [h]
   exact .inl (.inr rfl)
  ·rw [if_pos h, if_pos (by rw [hk]; decide)]
   exact .inr ⟨rfl, .inl hk⟩
  ·rw [e, ran_some (e := ⟨0, (0 + j : Nat), nuM w, Z32, 0⟩) (by simp [ranE, nuM, valM])]
   rw [if_pos rfl, if_neg (by simp)]
   split
   ·exact .inr ⟨rfl, .inr ⟨rfl, rfl⟩⟩
   ·exact .inl (.inl rfl)
 ·rw [if_neg hc]
  refine .inl (.inl ?_)
  show stepCheckM worldT (askedM B l) = 11
  rw [world_check, hr.check] at hc ⊢
  cases hl : (longT 300 60 1 0 (askedM B l)).1
  ·rw [hl] at hc; simp at hc
  ·rfl
theorem run_runs {t : Tm} (hr : Rt t) {fuel : Int} (hf : 0 ≤ fuel ∧ fuel ≤ 2000) (h0 : (runM worldT t fuel).2 = 0) (hk : (runM worldT t fuel).1.kind = 0) : ∃ j, Runs worldT j t (runM worldT t fuel).1.term := by
 have hc : stepCheckM worldT t = 0 := by
  unfold runM at h0
  split at h0
  ·assumption
  ·exact h0
 obtain ⟨h1, h2⟩ := ranOk hc hf h0
 rw [h2] at hk ⊢
 have hz := Gt.size ⟨hr, hc⟩
 exact ran_runs _ 0 t hr (by omega) h1 hk
end Go.Proofs.YtkcgkignhpepkaaGreatDoor

/- StepResumed: the walk. -/
namespace Go.Proofs.YtkcgkignhpepkaaGreatDoor
open Go Hs
theorem rt_okr {t : Tm} (h : Rt t) : Okt 0 t := ⟨h.gd, h.lc⟩
theorem tot_size (l : List Int) : tsize (totF (vaM 0) l) = 1 + 4 * l.length := by
 induction l using list_snoc with
 | h0 => simp [totF, nuM, tsize, tsizeL, csizeL]
 | h1 l n ih =>
  have hv : tsize (vaM 0) = 1 := by simp [vaM, tsize, tsizeL, csizeL]
  rw [tot_snoc]
  simp only [prM, apM, nuM, tsize, tsizeL, csizeL, ih, hv, List.length_append, List.length_singleton]
  omega
theorem asked_size (B : Tm) (l : List Int) : tsize (askedM B l) = 5 + tsize (laM B) + tsize (totF (vaM 0) l) := by
 unfold askedM
 generalize totF (vaM 0) l = q
 generalize laM B = p
 simp only [haM, apM, doT, nuM, vaM, tsize, tsizeL, csizeL]
 omega
theorem tot_ok {d : Int} (hd : 0 < d) (l : List Int) (hl : ∀ x ∈ l, 0 ≤ x ∧ x ≤ 255) : Okt d (totF (vaM 0) l) := by
 revert hl
 induction l using list_snoc with
 | h0 => intro _; exact ok_nu (by decide)
 | h1 l n ih =>
  intro hl
  have h1 := ih fun x hx => hl x (by simp [hx])
  have h2 : Okt d (vaM 0) := ok_va (by omega)
  have h3 : Okt d (nuM n) := ok_nu (by have := hl n (by simp); omega)
  rw [tot_snoc];exact ok_pr (by decide) h1 inferInstance
theorem asked_ok {B : Tm} (hB : Rt (laM B)) (l : List Int) (hl : ∀ x ∈ l, 0 ≤ x ∧ x ≤ 255) : Rt (askedM B l) := by
 have h1 := rt_okr hB
 have h2 : Okt 0 (nuM 9) := ok_nu (by decide)
 have h3 : Okt (0 + 1) (vaM 0) := ok_va (by decide)
 have h4 : ∀ x ∈ [totF (vaM 0) l], Okt (0 + 2) x := by
  intro x hx
  rw [List.mem_singleton.1 hx];exact tot_ok (by decide) l hl
 have h5 : Okt 0 (apM (laM B) (doT (sumR 11) 0 (nuM 9))) := inferInstance
 have h6 : Okt 0 (askedM B l) := ok_ha (by simp) h5 h3 h4
 exact ⟨h6.gd, h6.lc⟩
theorem one_law {B : Tm} (hB : Rt (laM B)) (hT : HT [] [] (.fn (.ba .n) (.ba .n) []) (laM B)) {x : Int} (hx : 0 ≤ x ∧ x ≤ 255) {wk ws tk tn : Int} {tr wr : List Int} {tks : List Tm} {tcs : List Cs} {wn we : Int} (h : runM worldT (apM (laM B) (nuM x)) 200 = (⟨wk, ws, .mk tk tn tr tks tcs, wr, wn⟩, we)) :
  (we = 11 ∨ we = 12) ∨ we = 0 ∧ (wk = 10 ∨ wk = 0 ∧ tk = 2 ∧ (0 ≤ tn ∧ tn ≤ 1073741824) ∧ ∃ j, Runs worldT j (apM (laM B) (nuM x)) (nuM tn)) := by
 have hr : Rt (apM (laM B) (nuM x)) := by
  have h1 := rt_okr hB
  have h2 : Okt 0 (nuM x) := ok_nu (by omega)
  have h3 : Okt 0 (apM (laM B) (nuM x)) := inferInstance
  exact ⟨h3.gd, h3.lc⟩
 have hs := run_safe (HT.ap hT (HT.nu x) (sub_nil [])) hr (fuel := 200) (by decide)
 have hq := run_runs hr (fuel := 200) (by decide)
 rw [h] at hs hq
 dsimp only at hs hq
 rcases hs with h | ⟨rfl, ⟨hk, _⟩ | ⟨hk, hv, hrt⟩⟩
 ·exact .inl h
 ·exact .inr ⟨rfl, .inl hk⟩
 ·have hd := (hv.2 []).dv hv.1 rfl
  generalize hm : Tm.mk tk tn tr tks tcs = m at hd hrt hq
  cases hd with
  | nat n =>
   simp only [nuM, Tm.mk.injEq] at hm
   obtain ⟨rfl, rfl, _⟩ := hm
   have hl := hrt.lc.1.2.2.2
   exact .inr ⟨rfl, .inr ⟨hk, rfl, by simp [offM] at hl; omega, hq rfl hk⟩⟩
set_option maxHeartbeats 8000000 in
set_option maxRecDepth 8000 in
theorem stepResumed_c (cs vs : List Int) (hcs : cs.length < 2^63) (hvs : vs.length < 2^63) (hvb : ∀ x ∈ vs, 0 ≤ x ∧ x ≤ 255) :
  FCall Tryz.prog gL 4 [.pu (.sl 0 5 (byP cs)), .pu (.sl 0 5 (byP vs))] (bv true) := by
 have hbz : Bz (cs.take 300) := ⟨by simp; omega⟩
 have hty := typed_ty (cs.take 300) 12 (.fn .n) [] ⟨0, 88172645463325252⟩
 have hrt := typed_ok (cs.take 300) 12 (.fn .n) [] ⟨0, 88172645463325252⟩
 have hsz := typed_z (cs.take 300) 12 (by omega) (.fn .n) [] ⟨0, 88172645463325252⟩
 have htc := typed_c (cs.take 300) 12 (by omega) (.fn .n) [] (by decide) ⟨0, 88172645463325252⟩ (by decide)
 generalize typedM (cs.take 300) 12 (.fn .n) [] ⟨0, 88172645463325252⟩ = pt at hty hrt hsz htc
 obtain ⟨t, s2⟩ := pt
 dsimp only at hty hrt hsz htc
 have hbl := by_len vs
 obtain ⟨l3, hl3⟩ : ∃ l3, l3 = vs.take 3 := ⟨_, rfl⟩
 have hlen3 : l3.length ≤ 3 := by rw [hl3]; simp; omega
 have hlb : ∀ x ∈ l3, 0 ≤ x ∧ x ≤ 255 := fun x hx => hvb x (List.mem_of_mem_take (hl3 ▸ hx))
 have hmin : (if (3 : Int) < ((byP vs).length : Int) then 3 else ((byP vs).length : Int)) = ((min vs.length 3 : Nat) : Int) := by split <;> omega
 have htk : (byP vs).take (min vs.length 3) = byP l3 := by
  rw [hl3]
  unfold byP
  rw [← List.map_take]
  congr 1
  by_cases h : vs.length ≤ 3
  ·rw [Nat.min_eq_left h, List.take_of_length_le (Nat.le_refl _), List.take_of_length_le h]
  ·rw [Nat.min_eq_right (by omega)]
 have hbl3 := by_len l3
 obtain ⟨k, n, r, ks, ccs⟩ := t
 refine FCall.of_tri tbl 144 Tryz.func4 rfl rfl rfl fun w0 M ρ0 D0 => ?_
 refine Y21 ?_;refine yR ?_;refine s_val (v_callD (fun _ => World_c)) ?_;refine s_alloc SS 5 ?_;refine yS ?_;refine e_seqN [5] ?_;refine Y1 ?_;refine s_call (of_c cs (by omega)) ?_;refine s_val (v_callD (fun _ => N_c)) ?_;refine s_val (v_callD (fun _ => N_c)) ?_;refine s_val (v_callD (fun _ => F_c natY natY)) ?_;refine s_call (htc) ?_;refine s_alloc SS 6 ?_;refine yS ?_;refine e_seqN [950, 6] ?_;refine Y29 ?_;refine Y0 ?_;refine Tri.cutW (σ := {B : Tm // Rt (laM B) ∧ tsize (laM B) ≤ 70010 ∧ HT [] [] (.fn (.ba .n) (.ba .n) []) (laM B)}) (fun B => ⟨[(1, .pu (.sl 0 5 (byP vs))), (5, .ptr 5 [] 26), (6, .ptr 6 [] 32)], [(5, .var 26 (.pu (wdP worldA worldB worldT))), (6, .var 32 (.pu (tmc 0 (laM B.1))))]⟩) ?_ (fun B => ?_)
 ·skip
  refine tQ ?_;refine Tri.cond rfl (fun h0 => ?_) (fun h0 => ?_)
  ·skip
   have hgood : Rt (laM (apM (.mk k n r ks ccs) (vaM 0))) ∧ tsize (laM (apM (.mk k n r ks ccs) (vaM 0))) ≤ 70010 ∧ HT [] [] (.fn (.ba .n) (.ba .n) []) (laM (apM (.mk k n r ks ccs) (vaM 0))) := by
    have o1 : Okt (0 + 1) (.mk k n r ks ccs) := ⟨gd_mono (by decide) hrt.gd, hrt.lc⟩
    have o2 : Okt (0 + 1) (vaM 0) := ok_va (by decide)
    have o3 : Okt 0 (laM (apM (.mk k n r ks ccs) (vaM 0))) := inferInstance
    refine ⟨⟨o3.gd, o3.lc⟩, ?_, .la (.ap (f := []) (hty.up _ (sub_self _)) (.va (n := 0) rfl) (sub_self _))⟩
    have hs2 : tsize (laM (apM (.mk k n r ks ccs) (vaM 0))) = 3 + tsize (.mk k n r ks ccs) := by simp only [laM, apM, vaM, tsize, tsizeL, csizeL]; omega
    omega
   refine Y6 ?_;refine s_val (v_callD (fun _ => Va_c 0)) ?_;refine s_val (v_callD (fun _ => Ap_c (.mk k n r ks ccs) (vaM 0))) ?_;refine s_val (v_callD (fun _ => La_c (apM (.mk k n r ks ccs) (vaM 0)))) ?_;refine yS ?_;refine e_draw ?_
   refine ⟨⟨_, hgood⟩, ?_, ?_⟩
   ·exact zW
   ·exact zW
  ·skip
   have hk3 : k = 3 := by simpa using h0
   obtain ⟨B, hB, _⟩ := hty.lam (by rw [hk3]; rfl)
   simp only [laM, Tm.mk.injEq] at hB
   obtain ⟨rfl, rfl, rfl, rfl, rfl⟩ := hB
   have hgood : Rt (laM B) ∧ tsize (laM B) ≤ 70010 ∧ HT [] [] (.fn (.ba .n) (.ba .n) []) (laM B) := ⟨hrt, Nat.le_trans hsz (by decide), hty⟩
   refine Tri.skip ?_
   refine ⟨⟨_, hgood⟩, ?_, ?_⟩
   ·exact zW
   ·exact zW
 ·skip
  obtain ⟨B, hBr, hBz, hBt⟩ := B
  dsimp only
  refine yR ?_;refine s_val (v_callD (fun _ => Nu_c 0)) ?_;refine s_alloc SS 7 ?_;refine yS ?_;refine e_seqN [7] ?_;refine Y21 ?_;refine Y32 ?_;refine yC ?_;refine s_val (v_minD) ?_;rw [hmin];refine s_val (v_sliceTo SS (ps := byP vs) (r := min vs.length 3) (by omega)) ?_;rw [htk];refine Y36 ?_;refine Tri.block (Tri.loopW (σ := {q : Nat × Int // Res B (l3.take q.1) q.2}) (fun i => ⟨[(5, .ptr 5 [] 26), (6, .ptr 6 [] 32), (7, .ptr 7 [] 32), (8, iv .i64 i.1.2), (36, .pu (.sl 0 5 (byP l3))), (37, iv .i64 (byP l3).length), (38, iv .i64 i.1.1)], [(5, .var 26 (.pu (wdP worldA worldB worldT))), (6, .var 32 (.pu (tmc 0 (laM B)))), (7, .var 32 (.pu (tmc 0 (totF (vaM 0) (l3.take i.1.1)))))]⟩) (fun i => l3.length - i.1.1) ⟨(0, 0), .nil⟩ ?_ ?_ (fun i => ?_))
  ·exact zW
  ·exact zW
  refine Y34 ?_;refine Tri.cond rfl (fun h1 => ?_) (fun h1 => ?_)
  ·skip
   obtain ⟨⟨j, w⟩, hres⟩ := i
   dsimp only at hres h1 ⊢
   have hj : j < l3.length := by have := of_decide_eq_true h1; rw [by_len] at this; omega
   have hw := hres.b
   obtain ⟨x, hx⟩ : ∃ x, x = l3[j] := ⟨_, rfl⟩
   have hxb := hlb x (hx ▸ List.getElem_mem hj)
   have hget : (byP l3)[j]? = some (.leaf (.int .u8 x)) := by simp [byP, hj, hx]
   have hts : l3.take (j + 1) = l3.take j ++ [x] := by rw [hx]; exact List.take_succ_eq_append_getElem hj
   have hsa : tsize (apM (laM B) (nuM x)) < 2^40 := by have h5 : tsize (apM (laM B) (nuM x)) = 2 + tsize (laM B) := (by simp only [apM, nuM, tsize, tsizeL, csizeL]; omega); omega
   have hrun := run_c (G := gL) worldA worldB worldT (apM (laM B) (nuM x)) 200 wsz hsa
   rcases hW : runM worldT (apM (laM B) (nuM x)) 200 with ⟨⟨wk, ws, ⟨tk, tn, tr, tks, tcs⟩, wr, wn⟩, we⟩
   have hlaw := one_law hBr hBt hxb hW
   rw [hW] at hrun
   refine Tri.skip ?_;refine tQ ?_;refine Tri.block ?_;refine yR ?_;refine s_val (v_index SS (h0 := by omega) (hp := hget)) ?_;refine yL ?_;refine Y13 ?_;refine Y1 ?_;refine s_val (v_conv SS (hu := conv_bi hxb)) ?_;refine s_val (v_callD (fun _ => Nu_c x)) ?_;refine s_alloc SS 11 ?_;refine yS ?_;refine e_seqN [11] ?_;refine Y6 ?_;refine s_val (v_callD (fun _ => Va_c 0)) ?_;refine yL ?_;refine s_val (v_callD (fun _ => Ap_c (vaM 0) (nuM x))) ?_;refine s_val (v_callD (fun _ => Pr_c 1 (totF (vaM 0) (l3.take j)) (apM (vaM 0) (nuM x)))) ?_;refine yS ?_;refine e_draw ?_;refine Y39 ?_;refine s_val (v_callD (fun _ => kitOwnTerm_c _ (laM B) (Nat.le_refl _) (by omega))) ?_;refine yL ?_;refine s_val (v_callD (fun _ => Ap_c (laM B) (nuM x))) ?_;refine s_val (v_callD (fun _ => hrun)) ?_;refine Y51 ?_;refine s_alloc SS 12 ?_;refine yS ?_;refine yA ?_
   refine e_drawN [12] ?_;refine Y17 ?_;refine Y11 ?_;refine Y23 ?_;refine yM ?_;refine xF ?_;refine Y8 ?_;refine Y23 ?_;refine Y0 ?_;refine Tri.cond rfl (fun h2 => ?_) (fun h2 => ?_)
   ·skip
    have h11 : (we == 11 || we == 12) = true ∨ we = 0 ∧ wk = 10 := by
     rcases hlaw with (rfl | rfl) | ⟨rfl, hk | ⟨rfl, rfl, _⟩⟩
     ·exact .inl rfl
     ·exact .inl rfl
     ·exact .inr ⟨rfl, hk⟩
     ·simp at h2
    refine Y1 ?_;refine s_val (v_callD (fun _ => tooMuch_c _)) ?_;refine Y24 ?_;refine xI ?_;refine xM ?_;refine Y8 ?_;refine xI ?_;refine xN ?_;refine yO ?_;refine yM ?_;refine s_gg zG (v_callD (fun _ => awake_gL)) ?_;refine yN ?_;refine Y2 ?_;exact Tri.ret ⟨.inr rfl, ret1 rfl resV_tmp (bv_imp (by rcases h11 with h | ⟨rfl, rfl⟩ <;> simp [*]))⟩
   ·skip
    have h00 : we = 0 ∧ wk = 0 ∧ tk = 2 := by
     simp at h2
     omega
    obtain ⟨rfl, rfl, rfl⟩ := h00
    obtain ⟨_, h | ⟨_, _, htn, hrn⟩⟩ := hlaw.resolve_left (by omega)
    ·omega
    have hnext : Res B (l3.take (j + 1)) (if 1073741824 < w + tn then 1073741824 else w + tn) := by rw [hts]; exact .snoc hres hrn htn
    have hwr : IntKind.i64.wrap (w + tn) = w + tn := wrap64 (by omega) (by omega)
    refine Tri.skip ?_;refine Y1 ?_;refine yF ?_;refine Y3 ?_;refine yI ?_;refine s_val (v_minD) ?_;refine Y13 ?_;rw [hwr];refine Y27 ?_
    refine ⟨⟨(j + 1, if 1073741824 < w + tn then 1073741824 else w + tn), hnext⟩, by show l3.length - (j + 1) < l3.length - j; omega, le_of ?_ ?_⟩
    ·repeat (first | exact SubE.nil | refine SubE.cons rfl (by first | rfl | (rw [wrap64 (by omega) (by omega)]; rfl) | ((rw [hts, tot_snoc]; rfl))) ?_)
    ·repeat (first | exact SubH.nil | refine SubH.cons rfl (by first | rfl | (rw [wrap64 (by omega) (by omega)]; rfl) | ((rw [hts, tot_snoc]; rfl))) ?_)
  ·skip
   obtain ⟨⟨j, w⟩, hres⟩ := i
   dsimp only at hres h1 ⊢
   have hj : l3.length ≤ j := by have := of_decide_eq_false h1; rw [by_len] at this; omega
   rw [List.take_of_length_le hj] at hres ⊢
   have hr2 := asked_ok hBr l3 hlb
   have hz2 : tsize (askedM B l3) < 2^40 := by have h1 := tot_size l3; have h5 := asked_size B l3; omega
   have hrun := run_c (G := gL) worldA worldB worldT (askedM B l3) 2000 wsz hz2
   have hlaw := asked_law hBr (by omega) hres hr2
   generalize runM worldT (askedM B l3) 2000 = W at hrun hlaw
   obtain ⟨⟨vk, vst, ⟨uk, un, ur, uks, ucs⟩, vr, vn⟩, ve⟩ := W
   dsimp only at hlaw
   have hlw : (ve = 11 ∨ ve = 12) ∨ ve = 0 ∧ (vk = 10 ∨ vk = 0 ∧ uk = 2 ∧ un = w) := by
    rcases hlaw with h | ⟨h, h' | ⟨h', ht⟩⟩
    ·exact .inl h
    ·exact .inr ⟨h, .inl h'⟩
    ·simp only [nuM, Tm.mk.injEq] at ht
     exact .inr ⟨h, .inr ⟨h', ht.1, ht.2.1⟩⟩
   refine Tri.exit ?_;refine Y38 ?_;refine yL ?_;refine yG ?_;refine s_val (v_callD (fun _ => Nu_c 9)) ?_;refine s_val (v_callD (fun _ => Ask_c (sumR 11) 0 (nuM 9))) ?_;refine s_val (v_callD (fun _ => Ap_c (laM B) (doT (sumR 11) 0 (nuM 9)))) ?_;refine s_val (v_callD (fun _ => Va_c 0)) ?_;refine Y47 ?_;refine s_val (v_callD (fun _ => Ha_c (sumR 11) [apM (laM B) (doT (sumR 11) 0 (nuM 9)), vaM 0, totF (vaM 0) l3])) ?_;refine s_alloc SS 14 ?_;refine yS ?_;refine e_drawN [14] ?_;refine Y39 ?_;refine s_val (v_callD (fun _ => hrun)) ?_;refine Y51 ?_;refine s_alloc SS 15 ?_;refine yS ?_;refine yA ?_;refine e_seqN [15] ?_;refine Y17 ?_;refine Y11 ?_;refine Y23 ?_;refine Y0 ?_;refine Tri.cond rfl (fun h3 => ?_) (fun h3 => ?_)
   ·skip
    have h11 : (ve == 11 || ve == 12) = true ∨ ve = 0 := by
     rcases hlw with (rfl | rfl) | ⟨rfl, _⟩
     ·exact .inl rfl
     ·exact .inl rfl
     ·exact .inr rfl
    refine Y1 ?_;refine s_val (v_callD (fun _ => tooMuch_c _)) ?_;refine Y24 ?_;refine Y23 ?_;refine yM ?_;refine s_gg zG (v_callD (fun _ => awake_gL)) ?_;refine yN ?_;refine Y2 ?_;exact Tri.ret ⟨.inr rfl, ret1 rfl resV_tmp (bv_imp (by rcases h11 with h | rfl <;> simp [*]))⟩
   ·skip
    have h00 : ve = 0 ∧ vk ≠ 10 := by simpa using h3
    obtain ⟨_, h | ⟨rfl, rfl, rfl⟩⟩ := hlw.resolve_left (by omega)
    ·omega
    refine Tri.skip ?_;refine Y29 ?_;refine yM ?_;refine xF ?_;refine Y8 ?_;refine Y20 ?_;refine yM ?_;refine xF ?_;refine Y8 ?_;refine xM ?_;refine Y20 ?_;refine yM ?_;refine s_gg zG (v_callD (fun _ => awake_gL)) ?_;refine yN ?_;refine Y2 ?_;exact Tri.ret ⟨.inr rfl, ret1 rfl resV_tmp (bv_imp (by simp))⟩
end Go.Proofs.YtkcgkignhpepkaaGreatDoor

/- StepResumed: the card. -/
namespace Go.Proofs.YtkcgkignhpepkaaGreatDoor.stepResumed
open Go Hs
open Go.ChangeShapes Go.WideShapes Go.ChangeAt Go.RowKit
def tabs : List (Nat × Int) := [(0, (11 : Int)), (1, 3), (2, 13), (3, 12), (4, 21), (5, 2), (6, 4), (7, 24), (8, 1), (9, 22), (10, 23)]
theorem tabs_g : gOf tabs = gL := rfl
theorem tabs_of {W : World} (h : laidMetH Tryz.prog Rows.stepResumedRow.laid W) : TabsL tabs W := by
 intro g n hm
 simp only [tabs, List.mem_cons, Prod.mk.injEq, List.not_mem_nil, or_false] at hm
 rcases hm with ⟨rfl, rfl⟩ | ⟨rfl, rfl⟩ | ⟨rfl, rfl⟩ | ⟨rfl, rfl⟩ | ⟨rfl, rfl⟩ | ⟨rfl, rfl⟩ | ⟨rfl, rfl⟩ | ⟨rfl, rfl⟩ | ⟨rfl, rfl⟩ | ⟨rfl, rfl⟩ | ⟨rfl, rfl⟩
 all_goals first
  | exact tab_one (name := "hoarstone/hoarstonekit.List") h (by rfl) (by kernel_rfl) (by kernel_rfl)
  | exact tab_one (name := "hoarstone/hoarstonekit.Inc") h (by rfl) (by kernel_rfl) (by kernel_rfl)
  | exact tab_one (name := "hoarstone/hoarstonekit.Add") h (by rfl) (by kernel_rfl) (by kernel_rfl)
  | exact tab_one (name := "hoarstone/hoarstonekit.Total") h (by rfl) (by kernel_rfl) (by kernel_rfl)
  | exact tab_one (name := "hoarstone/hoarstonekit.Down") h (by rfl) (by kernel_rfl) (by kernel_rfl)
  | exact tab_one (name := "hoarstone/hoarstonekit.State") h (by rfl) (by kernel_rfl) (by kernel_rfl)
  | exact tab_one (name := "hoarstone/hoarstonekit.Bool") h (by rfl) (by kernel_rfl) (by kernel_rfl)
  | exact tab_one (name := "hoarstone/hoarstonekit.Pair") h (by rfl) (by kernel_rfl) (by kernel_rfl)
  | exact tab_one (name := "hoarstone/hoarstonekit.Opt") h (by rfl) (by kernel_rfl) (by kernel_rfl)
  | exact tab_one (name := "hoarstone/hoarstonekit.Flip") h (by rfl) (by kernel_rfl) (by kernel_rfl)
  | exact tab_one (name := "hoarstone/hoarstonekit.Abort") h (by rfl) (by kernel_rfl) (by kernel_rfl)
theorem par : Tryz.f4.params = #[48, 48] := by kernel_rfl
theorem two {Q : TypeId → Value → Prop} {a b : TypeId} {x y : Value} (h : ∀ (j : Nat) t v, (#[a, b] : Array TypeId)[j]? = some t → (#[x, y] : Array Value)[j]? = some v → Q t v) : Q a x ∧ Q b y :=
 ⟨h 0 a x rfl rfl, h 1 b y rfl rfl⟩
set_option maxRecDepth 100000 in
theorem contract (H : Type) (enc : TypeId × Value → H) (W : World) (base : Nat) (args : Array Value) (ds gs : List (DataW H)) (before : List MemPlace)
  (hval : ∀ (j : Nat) t v, Tryz.f4.params[j]? = some t → args[j]? = some v → Value.okWide Tryz.prog W .any base t v)
  (hW : DataW.Whole enc Tryz.prog Tryz.f4.params.toList Rows.stepResumedSpec.vars false W args.toList ds gs before) (hL : laidMetH Tryz.prog Rows.stepResumedRow.laid W) :
  Calls Tryz.prog 4 args W fun e W' => ∃ v, e = .returned v ∧ Rows.stepResumedSpec.post enc Tryz.prog Tryz.f4 false true false false W args v W' := by
 have hT := tabs_of hL
 have hW' := hW
 obtain ⟨p, q, hA0, hV, rfl, hfz, hnd⟩ := hW
 have hA : DataW.TrodAll enc Tryz.prog W 0 (fun _ => true) true Tryz.f4.params.toList args.toList ds p := hA0
 rw [par] at hA hval
 obtain ⟨v0, vs0, d0, ds0, p0, q0, hargs, rfl, rfl, h0, r0⟩ := trodAll_cons hA
 obtain ⟨v1, vs1, d1, ds1, p1, q1, e1, rfl, rfl, h1, r1⟩ := trodAll_cons r0
 obtain ⟨rfl, rfl, rfl⟩ := trodAll_nil r1
 subst e1
 obtain rfl : args = #[v0, v1] := by cases args; simp_all
 obtain ⟨rfl, rfl⟩ := trodVars_none hV
 obtain ⟨hv0, hv1⟩ := two hval
 clear hval
 simp only [List.append_nil] at hW' hA0
 have hlt : ∀ x ∈ p0, x.block < W.heap.size := fun x hx => by simpa using hW'.lt x (by simp [hx])
 have hlt1 : ∀ x ∈ p1, x.block < W.heap.size := fun x hx => by simpa using hW'.lt x (by simp [hx])
 obtain ⟨l, hl, hll, hag, hvr⟩ := byte_arg hv0 h0 hlt
 obtain ⟨m, hm, hml, hag1, hvr1⟩ := byte_arg hv1 h1 hlt1
 have hc := stepResumed_c l m hll hml hm
 rw [← tabs_g] at hc
 refine (call_of (l := tabs) hT hc (xs := #[v0, v1]) (.cons hvr hag (.cons hvr1 hag1 .nil))).mono fun e W' ⟨he, hb⟩ => ?_
 subst he
 have s0 := Below.trod laidOutD (by kernel_rfl) (of_decide_eq_true (by kernel_rfl)) h0 hb hlt
 have s1 := Below.trod laidOutD (by kernel_rfl) (of_decide_eq_true (by kernel_rfl)) h1 hb hlt1
 refine ⟨_, rfl, _, _, _, [], p0 ++ p1, [], hW', ?_, ?_, rfl, ?_, fun h => by cases h⟩
 ·exact trodAll_mk1 (shut_bool undB _)
 ·exact trodAll_mk2 s0 s1
 ·simpa using hb.frame _
theorem own : ownKnob Tryz.prog.godebug = none := by kernel_rfl
noncomputable def lay (h : Array Obj) (g : Nat) (n : Int) : Array Obj := h.modify g fun
 | .cells _ t frozen => .cells ((sumR n).map fun z => Value.int .u8 z).toArray t frozen
 | o => o
noncomputable def zeros : Array Value := #[.slice none 0 0, .slice none 0 0]
noncomputable def laidWorld (os : Os) : World :=
 { World.holding Tryz.prog os ⟨#[], #[], []⟩ with heap := tabs.foldl (fun h (x : Nat × Int) => lay h x.1 x.2) (World.holding Tryz.prog os ⟨#[], #[], []⟩).heap }
theorem laid_met (os : Os) : laidMet Tryz.prog Rows.stepResumedRow.laid ((laidWorld os).forCall (fun _ _ => 0) ⟨#[], zeros, []⟩).memory :=
 laidMet_of_run' 8 (by kernel_rfl) (by kernel_rfl)
theorem reads (os : Os) {H : Type} (enc : TypeId × Value → H) : ∃ places, DataW.whole enc Tryz.prog ((laidWorld os).forCall (fun _ _ => 0) ⟨#[], zeros, []⟩).memory Tryz.f4.params.toList Rows.stepResumedSpec.vars false zeros.toList 8 = some ([.nil, .nil], [], places) :=
 ⟨[], by kernel_rfl⟩
set_option maxRecDepth 100000 in
theorem lifted (os : Os) (started : os.Started) (H : Type) (enc : TypeId × Value → H) (F : Stop.Interp) :
  ReturnsInHanded {} Tryz.checked os 4 .any ((OpenSpec.ofChange Rows.stepResumedSpec).preRow enc Tryz.prog Tryz.f4 Rows.stepResumedRow.domain false Rows.stepResumedRow.laid) (((OpenSpec.ofChange Rows.stepResumedSpec).at F).post enc Tryz.prog Tryz.f4 false true false false) := by
 obtain ⟨places, hx⟩ := reads os enc
 refine returnsInHanded_of_row (C := Tryz.checked) (s := OpenSpec.ofChange Rows.stepResumedSpec) own started (by kernel_rfl) Tryz.func4
  (witness_row_at (enc := enc) (C := Tryz.checked) false (laidWorld os) zeros rfl (by kernel_rfl) (by kernel_rfl) (by kernel_rfl)
   (OpenSpec.preRow_of_cond 8 hx (by kernel_rfl) (fun k hk => by cases hk) (by kernel_rfl) (laid_met os))) ?_
 intro W base args ds gs before hval hW _ _ _ hL _ _
 exact contract H enc W base args ds gs before hval hW hL
set_option maxHeartbeats 100000000 in
theorem facts : joinedFacts Tryz.pinned.checked.prog 4 Tryz.f4 (OpenSpec.ofChange Rows.stepResumedSpec).bare Rows.stepResumedRow = true := by
 unfold joinedFacts
 repeat' (with_reducible refine and_t ?_ ?_)
 all_goals (as_aux_lemma => kernel_rfl)
theorem said : Rows.StepResumedSaid :=
 OpenClaim.holds_of_cond 4 Tryz.f4 rfl rfl rfl rfl rfl rfl rfl ⟨rfl, rfl, rfl, rfl, rfl⟩ rfl rfl rfl rfl rfl (by kernel_rfl) Tryz.func4 facts
  (of_decide_eq_true (by kernel_rfl)) (by unfold Func.isWrapper; first | (rw [if_pos (by decide +kernel)]; kernel_rfl) | (rw [if_neg (by decide +kernel)]; exact ⟨rfl, rfl⟩))
  (fun os started H enc _ F => by rw [OpenClaim.pre_eq_preRow]; exact lifted os started H enc F)
theorem plain (f : FuncId) (fn : Func) (hf : Tryz.pinned.checked.prog.funcNamed "hoarstone/hoarstonelaw16.StepResumed" = some f) (hfn : Tryz.pinned.checked.prog.funcs[f]? = some fn) :
  false = Tryz.pinned.checked.prog.looks [] ∧ ∀ (j : Nat) t, fn.params[j]? = some t → Tryz.pinned.checked.prog.wantsStandIn t = false := by
 obtain rfl : f = 4 := Option.some.inj ((show Tryz.prog.funcNamed "hoarstone/hoarstonelaw16.StepResumed" = some 4 by kernel_rfl).symm.trans hf) |>.symm
 obtain rfl : fn = Tryz.f4 := (Option.some.inj (Tryz.func4.symm.trans hfn)).symm
 refine ⟨by kernel_rfl, fun j t ht => ?_⟩
 rw [par] at ht
 have hm := Array.mem_of_getElem? ht
 have q0 : Tryz.prog.wantsStandIn 48 = false := by kernel_rfl
 simp only [List.mem_toArray, List.mem_cons, List.not_mem_nil, or_false] at hm
 rcases hm with rfl | rfl
 ·exact q0
 ·exact q0
theorem card : Rows.StepResumedCardSaid :=
 Claim7.holds_tied_plain_at .later [] _ _ _ _ said (fun _ h => by cases h) (by kernel_rfl) (fun _ h => by cases h) stepResumed_row_tie rfl ⟨rfl, rfl⟩ (by kernel_rfl) rfl plain (by kernel_rfl)
end Go.Proofs.YtkcgkignhpepkaaGreatDoor.stepResumed

