/- Part 6 of the proof: lemmas on walks and the walks of the functions, in their order. -/
import Derived.Test.YtkcgkignhpepkaaDoorK5
import Derived.Test.YtkcgkignhpepkaaDoorRows
import Derived.Test.YtkcgkignhpepkaaDoorCards
import Derived.Test.YtkcgkignhpepkaaDoorTie
import Derived.WalkKit
import Derived.ProofKit
import Derived.OpenShut
import Derived.Lib.LaidTab
import Derived.LaidSub
import Derived.Deep.DeepHandedRow
set_option linter.unusedSimpArgs false
set_option linter.unusedVariables false
/- Terms that are the same. -/
namespace Go.Proofs.YtkcgkignhpepkaaDoor
open Go Hs
variable {G : List (Nat × TypeId × Pu)}

def eqLM {α : Type} (φ : α → α → Bool) : List α → List α → Bool
  | [], [] => true
  | a :: l, b :: m => φ a b && eqLM φ l m
  | _, _ => false
theorem eqLM_len {α : Type} {φ : α → α → Bool} : ∀ {l m : List α}, l.length ≠ m.length → eqLM φ l m = false
  | [], [], h => by simp at h
  | [], _ :: _, _ => rfl
  | _ :: _, [], _ => rfl
  | a :: l, b :: m, h => by simp only [eqLM, eqLM_len (l := l) (m := m) (by simpa using h), Bool.and_false]
theorem eqLM_take {α : Type} {φ : α → α → Bool} : ∀ {l m : List α} {i : Nat} (h : i < l.length) (h2 : i < m.length), eqLM φ (l.take (i + 1)) (m.take (i + 1)) = (eqLM φ (l.take i) (m.take i) && φ l[i] m[i])
  | a :: l, b :: m, 0, _, _ => by simp [eqLM]
  | a :: l, b :: m, i + 1, h, h2 => by
    have h' : i < l.length := by simpa using h
    have h2' : i < m.length := by simpa using h2
    have := eqLM_take (φ := φ) h' h2'
    simp only [List.take_succ_cons, eqLM, List.getElem_cons_succ, this, Bool.and_assoc]
theorem eqLM_stop {α : Type} {φ : α → α → Bool} : ∀ {l m : List α} {i : Nat}, eqLM φ (l.take i) (m.take i) = false → eqLM φ l m = false
  | [], [], i, h => by simp [eqLM] at h
  | [], _ :: _, i, h => rfl
  | _ :: _, [], i, h => rfl
  | a :: l, b :: m, 0, h => by simp [eqLM] at h
  | a :: l, b :: m, i + 1, h => by
    simp only [List.take_succ_cons, eqLM] at h ⊢
    cases hp : φ a b
    · rfl
    · rw [hp] at h
      simp only [Bool.true_and] at h ⊢
      exact eqLM_stop h

theorem eqfPat_c (f : FuncId) (he : entersB Tryd.prog f = true) (φ : Pat → Pat → Bool) (l m : List Pat) (hl : l.length < 2^40) (hm : m.length < 2^40) (h : ∀ i (h1 : i < l.length) (h2 : i < m.length), FCall Tryd.prog G f [.pu (patc 0 l[i]), .pu (patc 0 m[i])] (bv (φ l[i] m[i]))) :
    FCall Tryd.prog G 43 [.pu (.sl 0 26 (patsc 0 l)), .pu (.sl 0 26 (patsc 0 m)), fV f] (bv (eqLM φ l m)) := by
  refine FCall.of_tri tbl 32 Tryd.func43 rfl rfl rfl fun w0 M ρ0 D0 => ?_
  refine yR ?_
  refine yB ?_
  refine e_seq ?_
  refine yR ?_
  refine yM ?_
  refine yC ?_
  refine yM ?_
  refine yC ?_
  refine yI ?_
  refine e_seq ?_
  repeat refine Tri.seq ?_
  refine Tri.cond rfl (fun h0 => ?_) (fun h0 => ?_)
  · skip
    have hf : eqLM φ l m = false := eqLM_len (by rw [pats_length, pats_length] at h0; simp at h0; omega)
    refine yR ?_
    refine yB ?_
    refine e_seq ?_
    repeat refine Tri.seq ?_
    exact Tri.ret ⟨.inr rfl, ret1 rfl resV_tmp (bv_imp hf.symm)⟩
  · skip
    have hlm : l.length = m.length := by rw [pats_length, pats_length] at h0; simp at h0; omega
    refine Tri.skip ?_
    refine yR ?_
    refine yM ?_
    refine yC ?_
    refine yJ ?_
    refine e_seq ?_
    repeat refine Tri.seq ?_
    refine Tri.block (Tri.loopW (σ := {i : Nat // eqLM φ (l.take i) (m.take i) = true}) (fun i => ⟨[(1, .pu (.sl 0 26 (patsc 0 m))), (2, fV f), (15, .pu (.sl 0 26 (patsc 0 l))), (16, iv .i64 (patsc 0 l).length), (17, iv .i64 i.1)], []⟩) (fun i => l.length - i.1) ⟨0, by simp [eqLM]⟩ ?_ ?_ (fun i => ?_))
    · exact zW
    · exact zW
    refine yR ?_
    refine yI ?_
    refine e_seq ?_
    repeat refine Tri.seq ?_
    refine Tri.cond rfl (fun h1 => ?_) (fun h1 => ?_)
    · skip
      have hi : i.1 < l.length := by rw [pats_length] at h1; simpa using h1
      have hi2 : i.1 < m.length := by omega
      have htk := eqLM_take (φ := φ) hi hi2
      rw [i.2, Bool.true_and] at htk
      refine Tri.skip ?_
      repeat refine Tri.seq ?_
      refine Tri.block ?_
      refine yR ?_
      refine yM ?_
      refine s_val (v_index SS (h0 := by omega) (hp := pats_get hi)) ?_
      refine yL ?_
      refine s_alloc SS 8 ?_
      refine yA ?_
      refine yS ?_
      refine e_seqN [8] ?_
      refine yR ?_
      refine yM ?_
      refine yM ?_
      refine s_val (v_index SS (h0 := by omega) (hp := pats_get hi2)) ?_
      refine yL ?_
      refine s_alloc SS 9 ?_
      refine yS ?_
      refine e_seqN [9] ?_
      refine yR ?_
      refine yM ?_
      refine yL ?_
      refine yL ?_
      refine s_val (v_callO (fun _ => h i.1 hi hi2) (he := he)) ?_
      refine yQ ?_
      refine e_seq ?_
      repeat refine Tri.seq ?_
      refine Tri.cond rfl (fun h2 => ?_) (fun h2 => ?_)
      · skip
        have hf : eqLM φ l m = false := eqLM_stop (i := i.1 + 1) (by rw [htk]; simpa using h2)
        refine yR ?_
        refine yB ?_
        refine e_seq ?_
        repeat refine Tri.seq ?_
        exact Tri.ret ⟨.inr rfl, ret1 rfl resV_tmp (bv_imp hf.symm)⟩
      · skip
        have hnext : eqLM φ (l.take (i.1 + 1)) (m.take (i.1 + 1)) = true := by rw [htk]; simpa using h2
        refine Tri.skip ?_
        refine yR ?_
        refine yI ?_
        refine yM ?_
        refine e_seq ?_
        refine ⟨⟨i.1 + 1, hnext⟩, by show l.length - (i.1 + 1) < l.length - i.1; omega, le_of ?_ ?_⟩
        · exact zE
        · exact zH
    · skip
      have hf : eqLM φ l m = true := by
        have := i.2
        rwa [List.take_of_length_le (by rw [pats_length] at h1; simp at h1; omega), List.take_of_length_le (by rw [pats_length] at h1; simp at h1; omega)] at this
      refine Tri.exit ?_
      refine yR ?_
      refine yB ?_
      refine e_seq ?_
      repeat refine Tri.seq ?_
      exact Tri.ret ⟨.inr rfl, ret1 rfl resV_tmp (bv_imp hf.symm)⟩

theorem eqfTm_c (f : FuncId) (he : entersB Tryd.prog f = true) (φ : Tm → Tm → Bool) (l m : List Tm) (hl : l.length < 2^40) (hm : m.length < 2^40) (h : ∀ i (h1 : i < l.length) (h2 : i < m.length), FCall Tryd.prog G f [.pu (tmc 0 l[i]), .pu (tmc 0 m[i])] (bv (φ l[i] m[i]))) :
    FCall Tryd.prog G 40 [.pu (.sl 0 30 (tmsc 0 l)), .pu (.sl 0 30 (tmsc 0 m)), fV f] (bv (eqLM φ l m)) := by
  refine FCall.of_tri tbl 32 Tryd.func40 rfl rfl rfl fun w0 M ρ0 D0 => ?_
  refine yR ?_
  refine yB ?_
  refine e_seq ?_
  refine yR ?_
  refine yM ?_
  refine yC ?_
  refine yM ?_
  refine yC ?_
  refine yI ?_
  refine e_seq ?_
  repeat refine Tri.seq ?_
  refine Tri.cond rfl (fun h0 => ?_) (fun h0 => ?_)
  · skip
    have hf : eqLM φ l m = false := eqLM_len (by rw [tms_length, tms_length] at h0; simp at h0; omega)
    refine yR ?_
    refine yB ?_
    refine e_seq ?_
    repeat refine Tri.seq ?_
    exact Tri.ret ⟨.inr rfl, ret1 rfl resV_tmp (bv_imp hf.symm)⟩
  · skip
    have hlm : l.length = m.length := by rw [tms_length, tms_length] at h0; simp at h0; omega
    refine Tri.skip ?_
    refine yR ?_
    refine yM ?_
    refine yC ?_
    refine yJ ?_
    refine e_seq ?_
    repeat refine Tri.seq ?_
    refine Tri.block (Tri.loopW (σ := {i : Nat // eqLM φ (l.take i) (m.take i) = true}) (fun i => ⟨[(1, .pu (.sl 0 30 (tmsc 0 m))), (2, fV f), (15, .pu (.sl 0 30 (tmsc 0 l))), (16, iv .i64 (tmsc 0 l).length), (17, iv .i64 i.1)], []⟩) (fun i => l.length - i.1) ⟨0, by simp [eqLM]⟩ ?_ ?_ (fun i => ?_))
    · exact zW
    · exact zW
    refine yR ?_
    refine yI ?_
    refine e_seq ?_
    repeat refine Tri.seq ?_
    refine Tri.cond rfl (fun h1 => ?_) (fun h1 => ?_)
    · skip
      have hi : i.1 < l.length := by rw [tms_length] at h1; simpa using h1
      have hi2 : i.1 < m.length := by omega
      have htk := eqLM_take (φ := φ) hi hi2
      rw [i.2, Bool.true_and] at htk
      refine Tri.skip ?_
      repeat refine Tri.seq ?_
      refine Tri.block ?_
      refine yR ?_
      refine yM ?_
      refine s_val (v_index SS (h0 := by omega) (hp := tms_get hi)) ?_
      refine yL ?_
      refine s_alloc SS 8 ?_
      refine yA ?_
      refine yS ?_
      refine e_seqN [8] ?_
      refine yR ?_
      refine yM ?_
      refine yM ?_
      refine s_val (v_index SS (h0 := by omega) (hp := tms_get hi2)) ?_
      refine yL ?_
      refine s_alloc SS 9 ?_
      refine yS ?_
      refine e_seqN [9] ?_
      refine yR ?_
      refine yM ?_
      refine yL ?_
      refine yL ?_
      refine s_val (v_callO (fun _ => h i.1 hi hi2) (he := he)) ?_
      refine yQ ?_
      refine e_seq ?_
      repeat refine Tri.seq ?_
      refine Tri.cond rfl (fun h2 => ?_) (fun h2 => ?_)
      · skip
        have hf : eqLM φ l m = false := eqLM_stop (i := i.1 + 1) (by rw [htk]; simpa using h2)
        refine yR ?_
        refine yB ?_
        refine e_seq ?_
        repeat refine Tri.seq ?_
        exact Tri.ret ⟨.inr rfl, ret1 rfl resV_tmp (bv_imp hf.symm)⟩
      · skip
        have hnext : eqLM φ (l.take (i.1 + 1)) (m.take (i.1 + 1)) = true := by rw [htk]; simpa using h2
        refine Tri.skip ?_
        refine yR ?_
        refine yI ?_
        refine yM ?_
        refine e_seq ?_
        refine ⟨⟨i.1 + 1, hnext⟩, by show l.length - (i.1 + 1) < l.length - i.1; omega, le_of ?_ ?_⟩
        · exact zE
        · exact zH
    · skip
      have hf : eqLM φ l m = true := by
        have := i.2
        rwa [List.take_of_length_le (by rw [tms_length] at h1; simp at h1; omega), List.take_of_length_le (by rw [tms_length] at h1; simp at h1; omega)] at this
      refine Tri.exit ?_
      refine yR ?_
      refine yB ?_
      refine e_seq ?_
      repeat refine Tri.seq ?_
      exact Tri.ret ⟨.inr rfl, ret1 rfl resV_tmp (bv_imp hf.symm)⟩

theorem eqfCs_c (f : FuncId) (he : entersB Tryd.prog f = true) (φ : Cs → Cs → Bool) (l m : List Cs) (hl : l.length < 2^40) (hm : m.length < 2^40) (h : ∀ i (h1 : i < l.length) (h2 : i < m.length), FCall Tryd.prog G f [.pu (csec 0 l[i]), .pu (csec 0 m[i])] (bv (φ l[i] m[i]))) :
    FCall Tryd.prog G 41 [.pu (.sl 0 34 (cssc 0 l)), .pu (.sl 0 34 (cssc 0 m)), fV f] (bv (eqLM φ l m)) := by
  refine FCall.of_tri tbl 32 Tryd.func41 rfl rfl rfl fun w0 M ρ0 D0 => ?_
  refine yR ?_
  refine yB ?_
  refine e_seq ?_
  refine yR ?_
  refine yM ?_
  refine yC ?_
  refine yM ?_
  refine yC ?_
  refine yI ?_
  refine e_seq ?_
  repeat refine Tri.seq ?_
  refine Tri.cond rfl (fun h0 => ?_) (fun h0 => ?_)
  · skip
    have hf : eqLM φ l m = false := eqLM_len (by rw [css_length, css_length] at h0; simp at h0; omega)
    refine yR ?_
    refine yB ?_
    refine e_seq ?_
    repeat refine Tri.seq ?_
    exact Tri.ret ⟨.inr rfl, ret1 rfl resV_tmp (bv_imp hf.symm)⟩
  · skip
    have hlm : l.length = m.length := by rw [css_length, css_length] at h0; simp at h0; omega
    refine Tri.skip ?_
    refine yR ?_
    refine yM ?_
    refine yC ?_
    refine yJ ?_
    refine e_seq ?_
    repeat refine Tri.seq ?_
    refine Tri.block (Tri.loopW (σ := {i : Nat // eqLM φ (l.take i) (m.take i) = true}) (fun i => ⟨[(1, .pu (.sl 0 34 (cssc 0 m))), (2, fV f), (15, .pu (.sl 0 34 (cssc 0 l))), (16, iv .i64 (cssc 0 l).length), (17, iv .i64 i.1)], []⟩) (fun i => l.length - i.1) ⟨0, by simp [eqLM]⟩ ?_ ?_ (fun i => ?_))
    · exact zW
    · exact zW
    refine yR ?_
    refine yI ?_
    refine e_seq ?_
    repeat refine Tri.seq ?_
    refine Tri.cond rfl (fun h1 => ?_) (fun h1 => ?_)
    · skip
      have hi : i.1 < l.length := by rw [css_length] at h1; simpa using h1
      have hi2 : i.1 < m.length := by omega
      have htk := eqLM_take (φ := φ) hi hi2
      rw [i.2, Bool.true_and] at htk
      refine Tri.skip ?_
      repeat refine Tri.seq ?_
      refine Tri.block ?_
      refine yR ?_
      refine yM ?_
      refine s_val (v_index SS (h0 := by omega) (hp := css_get hi)) ?_
      refine yL ?_
      refine s_alloc SS 8 ?_
      refine yA ?_
      refine yS ?_
      refine e_seqN [8] ?_
      refine yR ?_
      refine yM ?_
      refine yM ?_
      refine s_val (v_index SS (h0 := by omega) (hp := css_get hi2)) ?_
      refine yL ?_
      refine s_alloc SS 9 ?_
      refine yS ?_
      refine e_seqN [9] ?_
      refine yR ?_
      refine yM ?_
      refine yL ?_
      refine yL ?_
      refine s_val (v_callO (fun _ => h i.1 hi hi2) (he := he)) ?_
      refine yQ ?_
      refine e_seq ?_
      repeat refine Tri.seq ?_
      refine Tri.cond rfl (fun h2 => ?_) (fun h2 => ?_)
      · skip
        have hf : eqLM φ l m = false := eqLM_stop (i := i.1 + 1) (by rw [htk]; simpa using h2)
        refine yR ?_
        refine yB ?_
        refine e_seq ?_
        repeat refine Tri.seq ?_
        exact Tri.ret ⟨.inr rfl, ret1 rfl resV_tmp (bv_imp hf.symm)⟩
      · skip
        have hnext : eqLM φ (l.take (i.1 + 1)) (m.take (i.1 + 1)) = true := by rw [htk]; simpa using h2
        refine Tri.skip ?_
        refine yR ?_
        refine yI ?_
        refine yM ?_
        refine e_seq ?_
        refine ⟨⟨i.1 + 1, hnext⟩, by show l.length - (i.1 + 1) < l.length - i.1; omega, le_of ?_ ?_⟩
        · exact zE
        · exact zH
    · skip
      have hf : eqLM φ l m = true := by
        have := i.2
        rwa [List.take_of_length_le (by rw [css_length] at h1; simp at h1; omega), List.take_of_length_le (by rw [css_length] at h1; simp at h1; omega)] at this
      refine Tri.exit ?_
      refine yR ?_
      refine yB ?_
      refine e_seq ?_
      repeat refine Tri.seq ?_
      exact Tri.ret ⟨.inr rfl, ret1 rfl resV_tmp (bv_imp hf.symm)⟩

mutual
def sameP : Pat → Pat → Bool
  | .mk k n r ks, .mk k' n' r' ks' => (k == k' && n == n' && r == r') && samePs ks ks'
def samePs : List Pat → List Pat → Bool
  | [], [] => true
  | p :: ps, q :: qs => sameP p q && samePs ps qs
  | _, _ => false
end
theorem samePs_eq : ∀ l m, samePs l m = eqLM sameP l m
  | [], [] => rfl
  | [], _ :: _ => rfl
  | _ :: _, [] => rfl
  | p :: ps, q :: qs => by simp only [samePs, eqLM, samePs_eq ps qs]
mutual
def sameT : Tm → Tm → Bool
  | .mk k n r ks cs, .mk k' n' r' ks' cs' => (k == k' && n == n' && r == r') && sameTs ks ks' && sameCs cs cs'
def sameTs : List Tm → List Tm → Bool
  | [], [] => true
  | p :: ps, q :: qs => sameT p q && sameTs ps qs
  | _, _ => false
def sameCs : List Cs → List Cs → Bool
  | [], [] => true
  | p :: ps, q :: qs => sameC p q && sameCs ps qs
  | _, _ => false
def sameC : Cs → Cs → Bool
  | .mk p t, .mk q u => sameP p q && sameT t u
end
theorem sameTs_eq : ∀ l m, sameTs l m = eqLM sameT l m
  | [], [] => by simp [sameTs, eqLM]
  | [], _ :: _ => by simp [sameTs, eqLM]
  | _ :: _, [] => by simp [sameTs, eqLM]
  | p :: ps, q :: qs => by simp only [sameTs, eqLM, sameTs_eq ps qs]
theorem sameCs_eq : ∀ l m, sameCs l m = eqLM sameC l m
  | [], [] => by simp [sameCs, eqLM]
  | [], _ :: _ => by simp [sameCs, eqLM]
  | _ :: _, [] => by simp [sameCs, eqLM]
  | p :: ps, q :: qs => by simp only [sameCs, eqLM, sameCs_eq ps qs]

theorem sameP_c : ∀ (N : Nat) (p q : Pat), psize p ≤ N → N < 2^40 → psize q < 2^40 → FCall Tryd.prog G 17 [.pu (patc 0 p), .pu (patc 0 q)] (bv (sameP p q)) := by
  intro N
  induction N with
  | zero => intro p q h; cases p; simp [psize] at h
  | succ N ih =>
  intro p q hp hN hq
  obtain ⟨k, n, r, ks⟩ := p
  obtain ⟨k', n', r', ks'⟩ := q
  simp only [psize] at hp hq
  have hlen := length_psizeL ks
  have hlen' := length_psizeL ks'
  refine FCall.of_tri tbl 31 Tryd.func17 rfl rfl rfl fun w0 M ρ0 D0 => ?_
  refine Tri.fact (i := 0) rfl (fun D w x h => pat_wf h) (fun hr => ?_)
  refine Tri.fact (i := 1) rfl (fun D w x h => pat_wf h) (fun hr' => ?_)
  simp only [wfP] at hr hr'
  refine yR ?_
  refine s_box SS 2 ?_
  refine s_box SS 3 ?_
  refine yB ?_
  refine e_seqN [2, 3] ?_
  refine yR ?_
  refine yF ?_
  refine yL ?_
  refine yF ?_
  refine yL ?_
  refine yI ?_
  refine yM ?_
  refine xF ?_
  refine xL ?_
  refine xF ?_
  refine xL ?_
  refine xI ?_
  refine yN ?_
  refine yM ?_
  refine xF ?_
  refine xL ?_
  refine xF ?_
  refine xL ?_
  refine s_gg zG (v_bin SS (h := bin_eqS (hr.1.trans hr'.1.symm))) ?_
  refine yN ?_
  refine yM ?_
  refine xF ?_
  refine xL ?_
  refine xF ?_
  refine xL ?_
  refine s_gg zG (v_callD (fun _ => eqfPat_c 17 (by kernel_rfl) sameP ks ks' (by omega) (by omega) (fun i h1 h2 => ih _ _ (by have := psizeL_get h1; omega) (by omega) (by have := psizeL_get h2; omega)))) ?_
  refine yN ?_
  refine yA ?_
  refine e_seq ?_
  repeat refine Tri.seq ?_
  exact Tri.ret ⟨.inr rfl, ret1 rfl resV_tmp (bv_imp (by simp only [sameP, samePs_eq]))⟩

theorem sameC_c (c d : Cs) (hp : csize c < 2^40) (hq : csize d < 2^40) (h : FCall Tryd.prog G 16 [.pu (tmc 0 (csT c)), .pu (tmc 0 (csT d))] (bv (sameT (csT c) (csT d)))) : FCall Tryd.prog G 42 [.pu (csec 0 c), .pu (csec 0 d)] (bv (sameC c d)) := by
  obtain ⟨p, t⟩ := c
  obtain ⟨q, u⟩ := d
  simp only [csT, csize] at h hp hq
  refine FCall.of_tri tbl 17 Tryd.func42 rfl rfl rfl fun w0 M ρ0 D0 => ?_
  refine yR ?_
  refine s_box SS 2 ?_
  refine s_box SS 3 ?_
  refine yB ?_
  refine e_seqN [2, 3] ?_
  refine yR ?_
  refine yF ?_
  refine yL ?_
  refine yF ?_
  refine yL ?_
  refine s_val (v_callD (fun _ => sameP_c _ p q (Nat.le_refl _) (by omega) (by omega))) ?_
  refine yM ?_
  refine xF ?_
  refine xL ?_
  refine xF ?_
  refine xL ?_
  refine s_gg zG (v_callD (fun _ => h)) ?_
  refine yN ?_
  refine yA ?_
  refine e_seq ?_
  repeat refine Tri.seq ?_
  exact Tri.ret ⟨.inr rfl, ret1 rfl resV_tmp (bv_imp (by simp only [sameC]))⟩

theorem sameTs_c (l m : List Tm) (hl : l.length < 2^40) (hm : m.length < 2^40) (h : ∀ i (h1 : i < l.length) (h2 : i < m.length), FCall Tryd.prog G 16 [.pu (tmc 0 l[i]), .pu (tmc 0 m[i])] (bv (sameT l[i] m[i]))) : FCall Tryd.prog G 14 [.pu (.sl 0 30 (tmsc 0 l)), .pu (.sl 0 30 (tmsc 0 m))] (bv (sameTs l m)) := by
  refine FCall.of_tri tbl 8 Tryd.func14 rfl rfl rfl fun w0 M ρ0 D0 => ?_
  refine yR ?_
  refine yB ?_
  refine e_seq ?_
  refine yR ?_
  refine yM ?_
  refine yM ?_
  refine s_val (v_callD (fun _ => eqfTm_c 16 (by kernel_rfl) sameT l m hl hm h)) ?_
  refine yA ?_
  refine e_seq ?_
  repeat refine Tri.seq ?_
  exact Tri.ret ⟨.inr rfl, ret1 rfl resV_tmp (bv_imp (by rw [sameTs_eq]))⟩

theorem sameT_c : ∀ (N : Nat) (t u : Tm), tsize t ≤ N → N < 2^40 → tsize u < 2^40 → FCall Tryd.prog G 16 [.pu (tmc 0 t), .pu (tmc 0 u)] (bv (sameT t u)) := by
  intro N
  induction N with
  | zero => intro t u h; have := tsize_pos t; omega
  | succ N ih =>
  intro t u hp hN hq
  obtain ⟨k, n, r, ks, cs⟩ := t
  obtain ⟨k', n', r', ks', cs'⟩ := u
  simp only [tsize] at hp hq
  have hlen := length_tsizeL ks
  have hlen' := length_tsizeL ks'
  have hlc := length_csizeL cs
  have hlc' := length_csizeL cs'
  refine FCall.of_tri tbl 38 Tryd.func16 rfl rfl rfl fun w0 M ρ0 D0 => ?_
  refine Tri.fact (i := 0) rfl (fun D w x h => tm_wf h) (fun hr => ?_)
  refine Tri.fact (i := 1) rfl (fun D w x h => tm_wf h) (fun hr' => ?_)
  simp only [wfT] at hr hr'
  have hcs : ∀ i (h1 : i < cs.length) (h2 : i < cs'.length), FCall Tryd.prog G 42 [.pu (csec 0 cs[i]), .pu (csec 0 cs'[i])] (bv (sameC cs[i] cs'[i])) := fun i h1 h2 => by
    have s1 := csizeL_get h1
    have s2 := csizeL_get h2
    generalize cs[i] = c at s1 ⊢
    generalize cs'[i] = d at s2 ⊢
    refine sameC_c c d (by omega) (by omega) ?_
    obtain ⟨p, t⟩ := c
    obtain ⟨q, u⟩ := d
    simp only [csize, csT] at s1 s2 ⊢
    exact ih t u (by omega) (by omega) (by omega)
  refine yR ?_
  refine s_box SS 2 ?_
  refine s_box SS 3 ?_
  refine yB ?_
  refine e_seqN [2, 3] ?_
  refine yR ?_
  refine yF ?_
  refine yL ?_
  refine yF ?_
  refine yL ?_
  refine yI ?_
  refine yM ?_
  refine xF ?_
  refine xL ?_
  refine xF ?_
  refine xL ?_
  refine xI ?_
  refine yN ?_
  refine yM ?_
  refine xF ?_
  refine xL ?_
  refine xF ?_
  refine xL ?_
  refine s_gg zG (v_bin SS (h := bin_eqS (hr.1.trans hr'.1.symm))) ?_
  refine yN ?_
  refine yM ?_
  refine xF ?_
  refine xL ?_
  refine xF ?_
  refine xL ?_
  refine s_gg zG (v_callD (fun _ => sameTs_c ks ks' (by omega) (by omega) (fun i h1 h2 => ih _ _ (by have := tsizeL_get h1; omega) (by omega) (by have := tsizeL_get h2; omega)))) ?_
  refine yN ?_
  refine yM ?_
  refine xF ?_
  refine xL ?_
  refine xF ?_
  refine xL ?_
  refine s_gg zG (v_callD (fun _ => eqfCs_c 42 (by kernel_rfl) sameC cs cs' (by omega) (by omega) hcs)) ?_
  refine yN ?_
  refine yA ?_
  refine e_seq ?_
  repeat refine Tri.seq ?_
  exact Tri.ret ⟨.inr rfl, ret1 rfl resV_tmp (bv_imp (by simp only [sameT, sameCs_eq]))⟩
mutual
theorem sameP_refl : ∀ p : Pat, sameP p p = true
  | .mk k n r ks => by simp [sameP, samePs_refl ks]
theorem samePs_refl : ∀ ps : List Pat, samePs ps ps = true
  | [] => rfl
  | p :: ps => by simp [samePs, sameP_refl p, samePs_refl ps]
end
mutual
theorem sameT_refl : ∀ t : Tm, sameT t t = true
  | .mk k n r ks cs => by simp [sameT, sameTs_refl ks, sameCs_refl cs]
theorem sameTs_refl : ∀ ts : List Tm, sameTs ts ts = true
  | [] => by simp [sameTs]
  | t :: ts => by simp [sameTs, sameT_refl t, sameTs_refl ts]
theorem sameCs_refl : ∀ cs : List Cs, sameCs cs cs = true
  | [] => by simp [sameCs]
  | c :: cs => by simp [sameCs, sameC_refl c, sameCs_refl cs]
theorem sameC_refl : ∀ c : Cs, sameC c c = true
  | .mk p t => by simp [sameC, sameP_refl p, sameT_refl t]
end
end Go.Proofs.YtkcgkignhpepkaaDoor

/- The usual world. -/
namespace Go.Proofs.YtkcgkignhpepkaaDoor
open Go Hs

def sumR (n : Int) : List Int := n :: List.replicate 31 0
/-- The package variables. -/
def gL : List (Nat × TypeId × Pu) := [(0, 23, refP (sumR 2)), (1, 23, refP (sumR 21)), (2, 23, refP (sumR 22)), (3, 23, refP (sumR 23)), (4, 23, refP (sumR 24)), (5, 23, refP (sumR 11)), (6, 23, refP (sumR 1)), (7, 23, refP (sumR 3)), (8, 23, refP (sumR 4)), (9, 23, refP (sumR 12)), (10, 23, refP (sumR 13))]
/-- Those that the examples read. -/
def gA : List (Nat × TypeId × Pu) := [(5, 23, refP (sumR 11)), (1, 23, refP (sumR 21))]
section
variable {G : List (Nat × TypeId × Pu)}
theorem Ha_c (r : List Int) (ks : List Tm) : FCall Tryd.prog G 60 [.pu (refP r), .pu (.sl 0 30 (tmsc 0 ks))] (.pu (tmc 0 (.mk 12 0 r ks []))) := by
  refine FCall.of_tri tbl 8 Tryd.func60 rfl rfl rfl fun w0 M ρ0 D0 => ?_
  refine yR ?_
  refine s_box SS 2 ?_
  refine s_alloc SS 4 ?_
  refine e_seqN [2, 4] ?_
  refine yR ?_
  refine yL ?_
  refine yM ?_
  refine yP ?_
  refine yS ?_
  refine e_seq ?_
  repeat refine Tri.seq ?_
  exact Tri.ret ⟨.inr rfl, ret1 rfl resV_cell (ToPu.imp (by repeat constructor))⟩
theorem PC_c (r : List Int) (n : Int) (ks : List Pat) : FCall Tryd.prog G 47 [.pu (refP r), iv .i64 n, .pu (.sl 0 26 (patsc 0 ks))] (.pu (patc 0 (.mk 3 n r ks))) := by
  refine FCall.of_tri tbl 11 Tryd.func47 rfl rfl rfl fun w0 M ρ0 D0 => ?_
  refine yR ?_
  refine s_box SS 3 ?_
  refine s_alloc SS 6 ?_
  refine e_seqN [3, 6] ?_
  refine yR ?_
  refine yL ?_
  refine yM ?_
  refine yM ?_
  refine yP ?_
  refine yS ?_
  refine e_seq ?_
  repeat refine Tri.seq ?_
  exact Tri.ret ⟨.inr rfl, ret1 rfl resV_cell (ToPu.imp (by repeat constructor))⟩

/-- A type. -/
def rowZ : Pu := .agg 91 [.sl 0 23 [], .leaf (.bool false), .leaf (.int .i64 0)]
def typT (k n : Int) (r : List Int) (ks : List Pu) : Pu := .agg 93 [.leaf (.int .i64 k), .leaf (.int .i64 n), refP r, .sl 0 93 ks, rowZ]
instance (k n : Int) (r : List Int) (ks : List Pu) : TyV Tryd.prog 93 (.pu (typT k n r ks)) := inferInstanceAs (TyV Tryd.prog 93 (.pu (.agg _ _)))
theorem V_c (n : Int) : FCall Tryd.prog G 44 [iv .i64 n] (.pu (typT 1 n Z32 [])) := by
  refine FCall.of_tri tbl 5 Tryd.func44 rfl rfl rfl fun w0 M ρ0 D0 => ?_
  refine yR ?_
  refine s_alloc SS 2 ?_
  refine e_seqN [2] ?_
  refine yR ?_
  refine yM ?_
  refine yP ?_
  refine yS ?_
  refine e_seq ?_
  repeat refine Tri.seq ?_
  exact Tri.ret ⟨.inr rfl, ret1 rfl resV_cell (ToPu.imp (by repeat constructor))⟩
theorem N_c : FCall Tryd.prog G 46 [] (.pu (typT 2 0 Z32 [])) := by
  refine FCall.of_tri tbl 2 Tryd.func46 rfl rfl rfl fun w0 M ρ0 D0 => ?_
  refine yR ?_
  refine s_alloc SS 0 ?_
  refine e_seqN [0] ?_
  refine yR ?_
  refine yP ?_
  refine yS ?_
  refine e_seq ?_
  repeat refine Tri.seq ?_
  exact Tri.ret ⟨.inr rfl, ret1 rfl resV_cell (ToPu.imp (by repeat constructor))⟩
theorem D_c (r : List Int) (ks : List Pu) : FCall Tryd.prog G 45 [.pu (refP r), .pu (.sl 0 93 ks)] (.pu (typT 4 0 r ks)) := by
  refine FCall.of_tri tbl 8 Tryd.func45 rfl rfl rfl fun w0 M ρ0 D0 => ?_
  refine yR ?_
  refine s_box SS 2 ?_
  refine s_alloc SS 4 ?_
  refine e_seqN [2, 4] ?_
  refine yR ?_
  refine yL ?_
  refine yM ?_
  refine yP ?_
  refine yS ?_
  refine e_seq ?_
  repeat refine Tri.seq ?_
  exact Tri.ret ⟨.inr rfl, ret1 rfl resV_cell (ToPu.imp (by repeat constructor))⟩
end

def vaM (n : Int) : Tm := .mk 1 n Z32 [] []
def nuM (n : Int) : Tm := .mk 2 n Z32 [] []
def laM (t : Tm) : Tm := .mk 3 0 Z32 [t] []
def apM (s t : Tm) : Tm := .mk 4 0 Z32 [s, t] []
def deM (r : List Int) : Tm := .mk 6 0 r [] []
def prM (n : Int) (s t : Tm) : Tm := .mk 10 n Z32 [s, t] []
def maM (t : Tm) (cs : List Cs) : Tm := .mk 9 0 Z32 [t] cs
def anyM : Pat := .mk 1 0 Z32 []
def pnM (n : Int) : Pat := .mk 2 n Z32 []
def pcM (r : List Int) (n : Int) (ks : List Pat) : Pat := .mk 3 n r ks
def worldT : List KT := [(sumR 21, laM (prM 1 (vaM 0) (nuM 1))), (sumR 22, laM (laM (prM 1 (vaM 1) (vaM 0)))),
  (sumR 23, laM (maM (vaM 0) [.mk (pcM (sumR 2) 0 []) (nuM 0), .mk (pcM (sumR 2) 1 [anyM, anyM]) (prM 1 (vaM 1) (apM (deM (sumR 23)) (vaM 0)))])),
  (sumR 24, laM (maM (vaM 0) [.mk (pnM 0) (nuM 0), .mk anyM (apM (deM (sumR 24)) (prM 2 (vaM 0) (nuM 1)))]))]

def kdP (r : List Int) (u : Array UInt8) (n : Int) (cons : List (List Pu)) : Pu := .agg 88 [refP r, .agg 86 [.leaf (.string ⟨u⟩), .leaf (.int .i64 n), .sl 0 83 (cons.map fun l => .sl 0 93 l)]]
def kaP (r : List Int) (u : Array UInt8) (ops : List Pu) : Pu := .agg 103 [refP r, .agg 101 [.leaf (.string ⟨u⟩), .sl 0 98 ops]]
def vT (n : Int) : Pu := typT 1 n Z32 []
def nT : Pu := typT 2 0 Z32 []
def opT (f t : Pu) : Pu := .agg 98 [f, t]
def worldA : Pu := .sl 0 88 [kdP (sumR 1) #[] 0 [[], []], kdP (sumR 2) #[] 1 [[], [vT 0, typT 4 0 (sumR 2) [vT 0]]], kdP (sumR 3) #[] 2 [[vT 0, vT 1]], kdP (sumR 4) #[111, 112, 116] 1 [[], [vT 0]]]
def worldB : Pu := .sl 0 103 [kaP (sumR 11) #[] [opT nT nT, opT nT nT], kaP (sumR 12) #[] [opT nT (typT 4 0 (sumR 1) [])], kaP (sumR 13) #[97, 98, 111, 114, 116] [opT nT nT]]

set_option maxHeartbeats 4000000 in
theorem World_c : FCall Tryd.prog gL 18 [] (.pu (wdP worldA worldB worldT)) := by
  refine FCall.of_tri tbl 113 Tryd.func18 rfl rfl rfl fun w0 M ρ0 D0 => ?_
  refine yR ?_
  refine s_alloc SS 0 ?_
  refine e_seqN [0] ?_
  refine yR ?_
  refine yG ?_
  refine yZ ?_
  refine yZ ?_
  refine yZ ?_
  refine yP ?_
  refine yP ?_
  refine yG ?_
  refine yZ ?_
  refine s_val (v_callD (fun _ => V_c 0)) ?_
  refine yG ?_
  refine s_val (v_callD (fun _ => V_c 0)) ?_
  refine yZ ?_
  refine s_val (v_callD (fun _ => D_c (sumR 2) [typT 1 0 Z32 []])) ?_
  refine yZ ?_
  refine yZ ?_
  refine yP ?_
  refine yP ?_
  refine yG ?_
  refine s_val (v_callD (fun _ => V_c 0)) ?_
  refine s_val (v_callD (fun _ => V_c 1)) ?_
  refine yZ ?_
  refine yZ ?_
  refine yP ?_
  refine yP ?_
  refine yG ?_
  refine yZ ?_
  refine s_val (v_callD (fun _ => V_c 0)) ?_
  refine yZ ?_
  refine yZ ?_
  refine yP ?_
  refine yP ?_
  refine yZ ?_
  refine yG ?_
  refine s_val (v_callD (fun _ => N_c)) ?_
  refine s_val (v_callD (fun _ => N_c)) ?_
  refine yP ?_
  refine s_val (v_callD (fun _ => N_c)) ?_
  refine s_val (v_callD (fun _ => N_c)) ?_
  refine yP ?_
  refine yZ ?_
  refine yP ?_
  refine yP ?_
  refine yG ?_
  refine s_val (v_callD (fun _ => N_c)) ?_
  refine yG ?_
  refine s_val (v_callD (fun _ => D_c (sumR 1) [])) ?_
  refine yP ?_
  refine yZ ?_
  refine yP ?_
  refine yP ?_
  refine yG ?_
  refine s_val (v_callD (fun _ => N_c)) ?_
  refine s_val (v_callD (fun _ => N_c)) ?_
  refine yP ?_
  refine yZ ?_
  refine yP ?_
  refine yP ?_
  refine yZ ?_
  refine yG ?_
  refine s_val (v_callD (fun _ => Va_c 0)) ?_
  refine s_val (v_callD (fun _ => Nu_c 1)) ?_
  refine s_val (v_callD (fun _ => Pr_c 1 (vaM 0) (nuM 1))) ?_
  refine s_val (v_callD (fun _ => La_c (prM 1 (vaM 0) (nuM 1)))) ?_
  refine yP ?_
  refine yG ?_
  refine s_val (v_callD (fun _ => Va_c 1)) ?_
  refine s_val (v_callD (fun _ => Va_c 0)) ?_
  refine s_val (v_callD (fun _ => Pr_c 1 (vaM 1) (vaM 0))) ?_
  refine s_val (v_callD (fun _ => La_c (prM 1 (vaM 1) (vaM 0)))) ?_
  refine s_val (v_callD (fun _ => La_c (laM (prM 1 (vaM 1) (vaM 0))))) ?_
  refine yP ?_
  refine yG ?_
  refine s_val (v_callD (fun _ => Va_c 0)) ?_
  refine yG ?_
  refine s_val (v_callD (fun _ => PC_c (sumR 2) 0 [])) ?_
  refine s_val (v_callD (fun _ => Nu_c 0)) ?_
  refine s_val (v_callD (fun _ => Ca_c (pcM (sumR 2) 0 []) (nuM 0))) ?_
  refine yG ?_
  refine s_val (v_callD (fun _ => Any_c)) ?_
  refine s_val (v_callD (fun _ => Any_c)) ?_
  refine yZ ?_
  refine s_val (v_callD (fun _ => PC_c (sumR 2) 1 [anyM, anyM])) ?_
  refine s_val (v_callD (fun _ => Va_c 1)) ?_
  refine yG ?_
  refine s_val (v_callD (fun _ => De_c (sumR 23))) ?_
  refine s_val (v_callD (fun _ => Va_c 0)) ?_
  refine s_val (v_callD (fun _ => Ap_c (deM (sumR 23)) (vaM 0))) ?_
  refine s_val (v_callD (fun _ => Pr_c 1 (vaM 1) (apM (deM (sumR 23)) (vaM 0)))) ?_
  refine s_val (v_callD (fun _ => Ca_c (pcM (sumR 2) 1 [anyM, anyM]) (prM 1 (vaM 1) (apM (deM (sumR 23)) (vaM 0))))) ?_
  refine yZ ?_
  refine s_val (v_callD (fun _ => Ma_c (vaM 0) [.mk (pcM (sumR 2) 0 []) (nuM 0), .mk (pcM (sumR 2) 1 [anyM, anyM]) (prM 1 (vaM 1) (apM (deM (sumR 23)) (vaM 0)))])) ?_
  refine s_val (v_callD (fun _ => La_c (maM (vaM 0) [.mk (pcM (sumR 2) 0 []) (nuM 0), .mk (pcM (sumR 2) 1 [anyM, anyM]) (prM 1 (vaM 1) (apM (deM (sumR 23)) (vaM 0)))]))) ?_
  refine yP ?_
  refine yG ?_
  refine s_val (v_callD (fun _ => Va_c 0)) ?_
  refine s_val (v_callD (fun _ => PN_c 0)) ?_
  refine s_val (v_callD (fun _ => Nu_c 0)) ?_
  refine s_val (v_callD (fun _ => Ca_c (pnM 0) (nuM 0))) ?_
  refine s_val (v_callD (fun _ => Any_c)) ?_
  refine yG ?_
  refine s_val (v_callD (fun _ => De_c (sumR 24))) ?_
  refine s_val (v_callD (fun _ => Va_c 0)) ?_
  refine s_val (v_callD (fun _ => Nu_c 1)) ?_
  refine s_val (v_callD (fun _ => Pr_c 2 (vaM 0) (nuM 1))) ?_
  refine s_val (v_callD (fun _ => Ap_c (deM (sumR 24)) (prM 2 (vaM 0) (nuM 1)))) ?_
  refine s_val (v_callD (fun _ => Ca_c anyM (apM (deM (sumR 24)) (prM 2 (vaM 0) (nuM 1))))) ?_
  refine yZ ?_
  refine s_val (v_callD (fun _ => Ma_c (vaM 0) [.mk (pnM 0) (nuM 0), .mk anyM (apM (deM (sumR 24)) (prM 2 (vaM 0) (nuM 1)))])) ?_
  refine s_val (v_callD (fun _ => La_c (maM (vaM 0) [.mk (pnM 0) (nuM 0), .mk anyM (apM (deM (sumR 24)) (prM 2 (vaM 0) (nuM 1)))]))) ?_
  refine yP ?_
  refine yZ ?_
  refine yP ?_
  refine yS ?_
  refine e_draw ?_
  repeat refine Tri.seq ?_
  exact Tri.ret ⟨.inr rfl, ret1 rfl resV_cell (ToPu.imp (by repeat constructor))⟩
end Go.Proofs.YtkcgkignhpepkaaDoor

/- The chapter's examples. -/
namespace Go.Proofs.YtkcgkignhpepkaaDoor
open Go Hs

def eqPath : List Nat → List Nat → Bool
  | l, m => l == m
theorem eqPath_c {G : List (Nat × TypeId × Pu)} (l m : List Nat) (hl : l.length < 2^40) (hm : m.length < 2^40) : FCall Tryd.prog G 37 [.pu (.sl 0 3 (pathL l)), .pu (.sl 0 3 (pathL m))] (bv (eqLM (fun a b : Nat => (a : Int) == (b : Int)) l m)) := by
  refine FCall.of_tri tbl 26 Tryd.func37 rfl rfl rfl fun w0 M ρ0 D0 => ?_
  refine yR ?_
  refine yB ?_
  refine e_seq ?_
  refine yR ?_
  refine yM ?_
  refine yC ?_
  refine yM ?_
  refine yC ?_
  refine yI ?_
  refine e_seq ?_
  repeat refine Tri.seq ?_
  refine Tri.cond rfl (fun h0 => ?_) (fun h0 => ?_)
  · skip
    have hf : eqLM (fun a b : Nat => (a : Int) == (b : Int)) l m = false := eqLM_len (by rw [path_len, path_len] at h0; simp at h0; omega)
    refine yR ?_
    refine yB ?_
    refine e_seq ?_
    repeat refine Tri.seq ?_
    exact Tri.ret ⟨.inr rfl, ret1 rfl resV_tmp (bv_imp hf.symm)⟩
  · skip
    have hlm : l.length = m.length := by rw [path_len, path_len] at h0; simp at h0; omega
    refine Tri.skip ?_
    refine yR ?_
    refine yM ?_
    refine yC ?_
    refine yJ ?_
    refine e_seq ?_
    repeat refine Tri.seq ?_
    refine Tri.block (Tri.loopW (σ := {i : Nat // eqLM (fun a b : Nat => (a : Int) == (b : Int)) (l.take i) (m.take i) = true}) (fun i => ⟨[(0, .pu (.sl 0 3 (pathL l))), (1, .pu (.sl 0 3 (pathL m))), (12, iv .i64 (pathL l).length), (13, iv .i64 i.1)], []⟩) (fun i => l.length - i.1) ⟨0, by simp [eqLM]⟩ ?_ ?_ (fun i => ?_))
    · exact zW
    · exact zW
    refine yR ?_
    refine yI ?_
    refine e_seq ?_
    repeat refine Tri.seq ?_
    refine Tri.cond rfl (fun h1 => ?_) (fun h1 => ?_)
    · skip
      have hi : i.1 < l.length := by rw [path_len] at h1; simpa using h1
      have hi2 : i.1 < m.length := by omega
      have htk := eqLM_take (φ := fun a b : Nat => (a : Int) == (b : Int)) hi hi2
      rw [i.2, Bool.true_and] at htk
      refine Tri.skip ?_
      repeat refine Tri.seq ?_
      refine Tri.block ?_
      refine yR ?_
      refine yM ?_
      refine yA ?_
      refine e_seq ?_
      refine yR ?_
      refine yM ?_
      refine yM ?_
      refine s_val (v_index SS (h0 := by omega) (hp := path_get hi)) ?_
      refine yL ?_
      refine yM ?_
      refine yM ?_
      refine s_val (v_index SS (h0 := by omega) (hp := path_get hi2)) ?_
      refine yL ?_
      refine yI ?_
      refine e_draw ?_
      repeat refine Tri.seq ?_
      refine Tri.cond rfl (fun h2 => ?_) (fun h2 => ?_)
      · skip
        have hf : eqLM (fun a b : Nat => (a : Int) == (b : Int)) l m = false := eqLM_stop (i := i.1 + 1) (by rw [htk]; simp at h2; simp; omega)
        refine yR ?_
        refine yB ?_
        refine e_seq ?_
        repeat refine Tri.seq ?_
        exact Tri.ret ⟨.inr rfl, ret1 rfl resV_tmp (bv_imp hf.symm)⟩
      · skip
        have hnext : eqLM (fun a b : Nat => (a : Int) == (b : Int)) (l.take (i.1 + 1)) (m.take (i.1 + 1)) = true := by rw [htk]; simp at h2; simp; omega
        refine Tri.skip ?_
        refine yR ?_
        refine yI ?_
        refine yM ?_
        refine e_seq ?_
        refine ⟨⟨i.1 + 1, hnext⟩, by show l.length - (i.1 + 1) < l.length - i.1; omega, le_of ?_ ?_⟩
        · exact zE
        · exact zH
    · skip
      have hf : eqLM (fun a b : Nat => (a : Int) == (b : Int)) l m = true := by
        have := i.2
        rwa [List.take_of_length_le (by rw [path_len] at h1; simp at h1; omega), List.take_of_length_le (by rw [path_len] at h1; simp at h1; omega)] at this
      refine Tri.exit ?_
      refine yR ?_
      refine yB ?_
      refine e_seq ?_
      repeat refine Tri.seq ?_
      exact Tri.ret ⟨.inr rfl, ret1 rfl resV_tmp (bv_imp hf.symm)⟩

def askM (r : List Int) (n : Int) (t : Tm) : Tm := .mk 11 n r [t] []
def resM (b : Tm) : Tm := .mk 12 0 (sumR 11) [prM 1 (askM (sumR 11) 0 (nuM 5)) (nuM 1), vaM 0, b] []
theorem Resumed_c (b : Tm) : FCall Tryd.prog gA 33 [.pu (tmc 0 b)] (.pu (tmc 0 (resM b))) := by
  refine FCall.of_tri tbl 13 Tryd.func33 rfl rfl rfl fun w0 M ρ0 D0 => ?_
  refine yR ?_
  refine s_box SS 1 ?_
  refine s_alloc SS 2 ?_
  refine e_seqN [1, 2] ?_
  refine yR ?_
  refine yG ?_
  refine yG ?_
  refine s_val (v_callD (fun _ => Nu_c 5)) ?_
  refine s_val (v_callD (fun _ => Ask_c (sumR 11) 0 (nuM 5))) ?_
  refine s_val (v_callD (fun _ => Nu_c 1)) ?_
  refine s_val (v_callD (fun _ => Pr_c 1 (askM (sumR 11) 0 (nuM 5)) (nuM 1))) ?_
  refine s_val (v_callD (fun _ => Va_c 0)) ?_
  refine yL ?_
  refine yZ ?_
  refine s_val (v_callD (fun _ => Ha_c (sumR 11) [prM 1 (askM (sumR 11) 0 (nuM 5)) (nuM 1), vaM 0, b])) ?_
  refine yS ?_
  refine e_draw ?_
  repeat refine Tri.seq ?_
  exact Tri.ret ⟨.inr rfl, ret1 rfl resV_cell (ToPu.imp (by repeat constructor))⟩

def awT : List KT := [(sumR 21, apM (deM (sumR 21)) (nuM 0))]
def aw1 : Tm := apM (laM (prM 1 (vaM 0) (vaM 0))) (prM 1 (nuM 1) (nuM 2))
def onceM : Tm := apM (vaM 0) (vaM 1)
def twiceM : Tm := prM 1 (apM (vaM 0) (nuM 1)) (apM (vaM 0) (nuM 2))
theorem aw_sz : ∀ x ∈ awT, tsize x.2 < 2^40 := by intro x hx; simp only [awT, List.mem_singleton] at hx; subst hx; decide
abbrev awA : Pu := .sl 0 88 []
abbrev awB : Pu := .sl 0 103 []
theorem awNext (t : Tm) {x : Int × List Nat × Int} (h : stepNextM awT t = x) (hz : tsize t < 2^40) : FCall Tryd.prog gA 32 [.pu (wdP awA awB awT), .pu (tmc 0 t)] (nextV x) := h ▸ stepNext_c awA awB awT t aw_sz hz
theorem awRun (t : Tm) (n : Int) {x : EndM × Int} (h : runM awT t n = x) (hz : tsize t < 2^40) : FCall Tryd.prog gA 22 [.pu (wdP awA awB awT), .pu (tmc 0 t), iv .i64 n] (ranV x) := h ▸ run_c awA awB awT t n aw_sz hz
theorem aw_n1 : stepNextM awT aw1 = (4, [1], 0) := by kernel_rfl
theorem aw_r1 : runM awT aw1 10 = (⟨0, 3, nuM 6, Z32, 0⟩, 0) := by kernel_rfl
theorem aw_r2 : runM awT (resM onceM) 10 = (⟨0, 4, nuM 6, Z32, 0⟩, 0) := by kernel_rfl
theorem aw_r3 : runM awT (resM (vaM 1)) 10 = (⟨0, 1, nuM 5, Z32, 0⟩, 0) := by kernel_rfl
theorem aw_r4 : runM awT (resM twiceM) 20 = (⟨0, 8, nuM 5, Z32, 0⟩, 0) := by kernel_rfl
theorem aw_r5 : runM awT (deM (sumR 21)) 10 = (⟨10, 10, noneM, Z32, 0⟩, 0) := by kernel_rfl
theorem aw_n2 : stepNextM awT (apM (nuM 1) (nuM 2)) = (8, [], 0) := by kernel_rfl
theorem aw_n3 : stepNextM awT (askM (sumR 11) 0 (nuM 1)) = (9, [], 0) := by kernel_rfl
end Go.Proofs.YtkcgkignhpepkaaDoor

/- awake: the chapter's examples come out as told. -/
namespace Go.Proofs.YtkcgkignhpepkaaDoor
open Go Hs

set_option maxHeartbeats 4000000 in
theorem awake_c : FCall Tryd.prog gA 9 [] (bv true) := by
  refine FCall.of_tri tbl 203 Tryd.func9 rfl rfl rfl fun w0 M ρ0 D0 => ?_
  refine yR ?_
  refine yB ?_
  refine e_seq ?_
  repeat refine Tri.seq ?_
  refine Tri.cond rfl (fun h0 => ?_) (fun h0 => ?_)
  · cases h0
  · skip
    refine Tri.skip ?_
    refine yR ?_
    refine yG ?_
    refine yG ?_
    refine s_val (v_callD (fun _ => De_c (sumR 21))) ?_
    refine s_val (v_callD (fun _ => Nu_c 0)) ?_
    refine s_val (v_callD (fun _ => Ap_c (deM (sumR 21)) (nuM 0))) ?_
    refine yP ?_
    refine yZ ?_
    refine yP ?_
    refine s_alloc SS 1 ?_
    refine yS ?_
    refine e_drawN [1] ?_
    refine yR ?_
    refine s_val (v_callD (fun _ => Va_c 0)) ?_
    refine s_val (v_callD (fun _ => Va_c 0)) ?_
    refine s_val (v_callD (fun _ => Pr_c 1 (vaM 0) (vaM 0))) ?_
    refine s_val (v_callD (fun _ => La_c (prM 1 (vaM 0) (vaM 0)))) ?_
    refine s_val (v_callD (fun _ => Nu_c 1)) ?_
    refine s_val (v_callD (fun _ => Nu_c 2)) ?_
    refine s_val (v_callD (fun _ => Pr_c 1 (nuM 1) (nuM 2))) ?_
    refine s_val (v_callD (fun _ => Ap_c (laM (prM 1 (vaM 0) (vaM 0))) (prM 1 (nuM 1) (nuM 2)))) ?_
    refine s_alloc SS 2 ?_
    refine yS ?_
    refine e_seqN [2] ?_
    refine yR ?_
    refine yL ?_
    refine yL ?_
    refine s_val (v_callD (fun _ => awNext aw1 aw_n1 (by decide))) ?_
    refine yM ?_
    refine yX ?_
    refine yX ?_
    refine yX ?_
    refine yA ?_
    refine yA ?_
    refine yA ?_
    refine e_seq ?_
    refine yR ?_
    refine yL ?_
    refine yL ?_
    refine s_val (v_callD (fun _ => awRun aw1 10 aw_r1 (by decide))) ?_
    refine yM ?_
    refine yX ?_
    refine yX ?_
    refine s_alloc SS 6 ?_
    refine yS ?_
    refine yA ?_
    refine e_seqN [6] ?_
    refine yR ?_
    refine yL ?_
    refine s_val (v_callD (fun _ => Once_c)) ?_
    refine s_val (v_callD (fun _ => Resumed_c onceM)) ?_
    refine s_val (v_callD (fun _ => awRun (resM onceM) 10 aw_r2 (by decide))) ?_
    refine yM ?_
    refine yX ?_
    refine yX ?_
    refine s_alloc SS 8 ?_
    refine yS ?_
    refine yA ?_
    refine e_drawN [8] ?_
    refine yR ?_
    refine yL ?_
    refine s_val (v_callD (fun _ => Va_c 1)) ?_
    refine s_val (v_callD (fun _ => Resumed_c (vaM 1))) ?_
    refine s_val (v_callD (fun _ => awRun (resM (vaM 1)) 10 aw_r3 (by decide))) ?_
    refine yM ?_
    refine yX ?_
    refine yX ?_
    refine s_alloc SS 10 ?_
    refine yS ?_
    refine yA ?_
    refine e_drawN [10] ?_
    refine yR ?_
    refine yL ?_
    refine s_val (v_callD (fun _ => Twice_c)) ?_
    refine s_val (v_callD (fun _ => Resumed_c twiceM)) ?_
    refine s_val (v_callD (fun _ => awRun (resM twiceM) 20 aw_r4 (by decide))) ?_
    refine yM ?_
    refine yX ?_
    refine yX ?_
    refine s_alloc SS 12 ?_
    refine yS ?_
    refine yA ?_
    refine e_drawN [12] ?_
    refine yR ?_
    refine yL ?_
    refine yG ?_
    refine s_val (v_callD (fun _ => De_c (sumR 21))) ?_
    refine s_val (v_callD (fun _ => awRun (deM (sumR 21)) 10 aw_r5 (by decide))) ?_
    refine yM ?_
    refine yX ?_
    refine yX ?_
    refine s_alloc SS 14 ?_
    refine yS ?_
    refine yA ?_
    refine e_drawN [14] ?_
    refine yR ?_
    refine yL ?_
    refine s_val (v_callD (fun _ => Nu_c 1)) ?_
    refine s_val (v_callD (fun _ => Nu_c 2)) ?_
    refine s_val (v_callD (fun _ => Ap_c (nuM 1) (nuM 2))) ?_
    refine s_val (v_callD (fun _ => awNext (apM (nuM 1) (nuM 2)) aw_n2 (by decide))) ?_
    refine yM ?_
    refine yX ?_
    refine yX ?_
    refine yX ?_
    refine yA ?_
    refine yA ?_
    refine yA ?_
    refine e_draw ?_
    refine yR ?_
    refine yL ?_
    refine yG ?_
    refine s_val (v_callD (fun _ => Nu_c 1)) ?_
    refine s_val (v_callD (fun _ => Ask_c (sumR 11) 0 (nuM 1))) ?_
    refine s_val (v_callD (fun _ => awNext (askM (sumR 11) 0 (nuM 1)) aw_n3 (by decide))) ?_
    refine yM ?_
    refine yX ?_
    refine yX ?_
    refine yX ?_
    refine yA ?_
    refine yA ?_
    refine yA ?_
    refine e_draw ?_
    refine yR ?_
    refine yM ?_
    refine yI ?_
    refine yM ?_
    refine xM ?_
    refine xI ?_
    refine yN ?_
    refine yM ?_
    refine xM ?_
    refine xI ?_
    refine yN ?_
    refine yM ?_
    refine xM ?_
    refine xI ?_
    refine yN ?_
    refine yM ?_
    refine xM ?_
    refine xI ?_
    refine yN ?_
    refine yM ?_
    refine xM ?_
    refine xI ?_
    refine yN ?_
    refine yM ?_
    refine xM ?_
    refine xI ?_
    refine yN ?_
    refine yM ?_
    refine xM ?_
    refine xI ?_
    refine yN ?_
    refine yM ?_
    refine xM ?_
    refine xI ?_
    refine yN ?_
    refine yM ?_
    refine xM ?_
    refine s_gg zG (v_sl SS) ?_
    refine s_gg zG (v_callD (fun _ => eqPath_c [1] [1] (by decide) (by decide))) ?_
    refine yN ?_
    refine yM ?_
    refine xF ?_
    refine xL ?_
    refine xI ?_
    refine yN ?_
    refine yM ?_
    refine xF ?_
    refine xL ?_
    refine xI ?_
    refine yN ?_
    refine yM ?_
    refine xF ?_
    refine xF ?_
    refine xL ?_
    refine xI ?_
    refine yN ?_
    refine yM ?_
    refine xF ?_
    refine xL ?_
    refine xI ?_
    refine yN ?_
    refine yM ?_
    refine xF ?_
    refine xF ?_
    refine xL ?_
    refine xI ?_
    refine yN ?_
    refine yM ?_
    refine xF ?_
    refine xL ?_
    refine xI ?_
    refine yN ?_
    refine yM ?_
    refine xF ?_
    refine xF ?_
    refine xL ?_
    refine xI ?_
    refine yN ?_
    refine yM ?_
    refine xF ?_
    refine xL ?_
    refine xI ?_
    refine yN ?_
    refine yM ?_
    refine xF ?_
    refine xF ?_
    refine xL ?_
    refine xI ?_
    refine yN ?_
    refine yM ?_
    refine xF ?_
    refine xL ?_
    refine xI ?_
    refine yN ?_
    refine yM ?_
    refine xF ?_
    refine xL ?_
    refine xI ?_
    refine yN ?_
    refine yM ?_
    refine xM ?_
    refine xI ?_
    refine yN ?_
    refine yM ?_
    refine xM ?_
    refine xI ?_
    refine yN ?_
    refine yA ?_
    refine e_seq ?_
    repeat refine Tri.seq ?_
    exact Tri.ret ⟨.inr rfl, ret1 rfl resV_tmp (bv_imp (by kernel_rfl))⟩
theorem gA_gL : ∀ g T p, get gA g = some (T, p) → get gL g = some (T, p) := by
  intro g T p h
  simp only [gA, get_cons, Hs.get] at h
  split at h
  · rename_i e; subst e; exact h
  · split at h
    · rename_i e; subst e; exact h
    · cases h
theorem awake_gL : FCall Tryd.prog gL 9 [] (bv true) := awake_c.moreG gA_gL
end Go.Proofs.YtkcgkignhpepkaaDoor

/- Counters that stop, told by size and depth. -/
namespace Go.Proofs.YtkcgkignhpepkaaDoor
open Go Hs
variable {G : List (Nat × TypeId × Pu)}

mutual
def pdeep : Pat → Nat
  | .mk _ _ _ ks => pdeepL ks + 1
def pdeepL : List Pat → Nat
  | [] => 0
  | p :: ps => max (pdeep p) (pdeepL ps)
end
mutual
def tdeep : Tm → Nat
  | .mk _ _ _ ks cs => max (tdeepL ks) (cdeepL cs) + 1
def tdeepL : List Tm → Nat
  | [] => 0
  | t :: ts => max (tdeep t) (tdeepL ts)
def cdeep : Cs → Nat
  | .mk p t => max (pdeep p) (tdeep t)
def cdeepL : List Cs → Nat
  | [] => 0
  | c :: cs => max (cdeep c) (cdeepL cs)
end
mutual
theorem pdeep_le : ∀ p : Pat, pdeep p ≤ psize p
  | .mk _ _ _ ks => by have := pdeepL_le ks; simp only [pdeep, psize]; omega
theorem pdeepL_le : ∀ ps : List Pat, pdeepL ps ≤ psizeL ps
  | [] => by simp [pdeepL]
  | p :: ps => by have := pdeep_le p; have := pdeepL_le ps; simp only [pdeepL, psizeL]; omega
end
mutual
theorem tdeep_le : ∀ p : Tm, tdeep p ≤ tsize p
  | .mk _ _ _ ks cs => by have := tdeepL_le ks; have := cdeepL_le cs; simp only [tdeep, tsize]; omega
theorem tdeepL_le : ∀ ps : List Tm, tdeepL ps ≤ tsizeL ps
  | [] => by simp [tdeepL]
  | p :: ps => by have := tdeep_le p; have := tdeepL_le ps; simp only [tdeepL, tsizeL]; omega
theorem cdeep_le : ∀ p : Cs, cdeep p ≤ csize p
  | .mk q t => by have := pdeep_le q; have := tdeep_le t; simp only [cdeep, csize]; omega
theorem cdeepL_le : ∀ ps : List Cs, cdeepL ps ≤ csizeL ps
  | [] => by simp [cdeepL]
  | p :: ps => by have := cdeep_le p; have := cdeepL_le ps; simp only [cdeepL, csizeL]; omega
end

/-- A counter that stops at a bound, told by the size and the depth. -/
def LS (mn md : Int) (n dp : Nat) (d c : Int) (r : Bool × Int) : Prop := (c + n ≤ mn ∧ d + dp ≤ md + 1 → r = (false, c + n)) ∧ (¬ (c + n ≤ mn ∧ d + dp ≤ md + 1) → r.1 = true)
mutual
theorem longP_ls (mn md : Int) : ∀ (p : Pat) (d c : Int), LS mn md (psize p) (pdeep p) d c (longP mn md d c p)
  | .mk _ _ _ ks, d, c => by
    simp only [longP, psize, pdeep]
    split
    · exact ⟨fun h => by omega, fun _ => rfl⟩
    · have := longPs_ls mn md ks (d + 1) (c + 1) (by omega) (by omega)
      unfold LS at *
      rw [show c + ((1 + psizeL ks : Nat) : Int) = c + 1 + psizeL ks by omega, show d + ((pdeepL ks + 1 : Nat) : Int) = d + 1 + pdeepL ks by omega]
      exact this
theorem longPs_ls (mn md : Int) : ∀ (ks : List Pat) (d c : Int), c ≤ mn → d ≤ md + 1 → LS mn md (psizeL ks) (pdeepL ks) d c (longPs mn md d c ks)
  | [], d, c, hc, hd => ⟨fun _ => by simp [longPs, psizeL], fun h => by simp only [psizeL, pdeepL] at h; omega⟩
  | p :: ps, d, c, hc, hd => by
    obtain ⟨h1, h2⟩ := longP_ls mn md p d c
    simp only [longPs, psizeL, pdeepL]
    by_cases h : c + psize p ≤ mn ∧ d + pdeep p ≤ md + 1
    · rw [h1 h]
      obtain ⟨h3, h4⟩ := longPs_ls mn md ps d (c + psize p) h.1 hd
      refine ⟨fun h5 => ?_, fun h5 => ?_⟩
      · show longPs mn md d (c + psize p) ps = _
        rw [h3 (by omega)]; congr 1; omega
      · exact h4 (by omega)
    · have h3 := h2 h
      generalize longP mn md d c p = r at h3
      obtain ⟨b, c'⟩ := r
      simp only at h3
      subst h3
      exact ⟨fun h5 => by omega, fun _ => rfl⟩
end
mutual
theorem longT_ls (mn md : Int) : ∀ (p : Tm) (d c : Int), LS mn md (tsize p) (tdeep p) d c (longT mn md d c p)
  | .mk _ _ _ ks cs, d, c => by
    simp only [longT, tsize, tdeep]
    split
    · exact ⟨fun h => by omega, fun _ => rfl⟩
    · obtain ⟨h1, h2⟩ := longTs_ls mn md ks (d + 1) (c + 1) (by omega) (by omega)
      by_cases h : c + 1 + tsizeL ks ≤ mn ∧ d + 1 + tdeepL ks ≤ md + 1
      · rw [h1 h]
        obtain ⟨h3, h4⟩ := longCs_ls mn md cs (d + 1) (c + 1 + tsizeL ks) h.1 (by omega)
        refine ⟨fun h5 => ?_, fun h5 => ?_⟩
        · show longCs mn md (d + 1) (c + 1 + tsizeL ks) cs = _
          rw [h3 (by omega)]; congr 1; omega
        · exact h4 (by omega)
      · have h3 := h2 h
        generalize longTs mn md (d + 1) (c + 1) ks = r at h3
        obtain ⟨b, c'⟩ := r
        simp only at h3
        subst h3
        exact ⟨fun h5 => by omega, fun _ => rfl⟩
theorem longTs_ls (mn md : Int) : ∀ (ks : List Tm) (d c : Int), c ≤ mn → d ≤ md + 1 → LS mn md (tsizeL ks) (tdeepL ks) d c (longTs mn md d c ks)
  | [], d, c, hc, hd => ⟨fun _ => by simp [longTs, tsizeL], fun h => by simp only [tsizeL, tdeepL] at h; omega⟩
  | p :: ps, d, c, hc, hd => by
    obtain ⟨h1, h2⟩ := longT_ls mn md p d c
    simp only [longTs, tsizeL, tdeepL]
    by_cases h : c + tsize p ≤ mn ∧ d + tdeep p ≤ md + 1
    · rw [h1 h]
      obtain ⟨h3, h4⟩ := longTs_ls mn md ps d (c + tsize p) h.1 hd
      refine ⟨fun h5 => ?_, fun h5 => ?_⟩
      · show longTs mn md d (c + tsize p) ps = _
        rw [h3 (by omega)]; congr 1; omega
      · exact h4 (by omega)
    · have h3 := h2 h
      generalize longT mn md d c p = r at h3
      obtain ⟨b, c'⟩ := r
      simp only at h3
      subst h3
      exact ⟨fun h5 => by omega, fun _ => rfl⟩
theorem longC_ls (mn md : Int) : ∀ (p : Cs) (d c : Int), LS mn md (csize p) (cdeep p) d c (longC mn md d c p)
  | .mk q t, d, c => by
    obtain ⟨h1, h2⟩ := longP_ls mn md q d c
    simp only [longC, csize, cdeep]
    have hp := tsize_pos t
    by_cases h : c + psize q ≤ mn ∧ d + pdeep q ≤ md + 1
    · rw [h1 h]
      obtain ⟨h3, h4⟩ := longT_ls mn md t d (c + psize q)
      refine ⟨fun h5 => ?_, fun h5 => ?_⟩
      · show longT mn md d (c + psize q) t = _
        rw [h3 (by omega)]; congr 1; omega
      · exact h4 (by omega)
    · have h3 := h2 h
      generalize longP mn md d c q = r at h3
      obtain ⟨b, c'⟩ := r
      simp only at h3
      subst h3
      exact ⟨fun h5 => by omega, fun _ => rfl⟩
theorem longCs_ls (mn md : Int) : ∀ (ks : List Cs) (d c : Int), c ≤ mn → d ≤ md + 1 → LS mn md (csizeL ks) (cdeepL ks) d c (longCs mn md d c ks)
  | [], d, c, hc, hd => ⟨fun _ => by simp [longCs, csizeL], fun h => by simp only [csizeL, cdeepL] at h; omega⟩
  | p :: ps, d, c, hc, hd => by
    obtain ⟨h1, h2⟩ := longC_ls mn md p d c
    simp only [longCs, csizeL, cdeepL]
    by_cases h : c + csize p ≤ mn ∧ d + cdeep p ≤ md + 1
    · rw [h1 h]
      obtain ⟨h3, h4⟩ := longCs_ls mn md ps d (c + csize p) h.1 hd
      refine ⟨fun h5 => ?_, fun h5 => ?_⟩
      · show longCs mn md d (c + csize p) ps = _
        rw [h3 (by omega)]; congr 1; omega
      · exact h4 (by omega)
    · have h3 := h2 h
      generalize longC mn md d c p = r at h3
      obtain ⟨b, c'⟩ := r
      simp only at h3
      subst h3
      exact ⟨fun h5 => by omega, fun _ => rfl⟩
end
end Go.Proofs.YtkcgkignhpepkaaDoor

/- The reference: what fits. -/
namespace Go.Proofs.YtkcgkignhpepkaaDoor
open Go Hs
variable {G : List (Nat × TypeId × Pu)}

theorem rfits_c : ∀ (N : Nat) (p : Pat), psize p ≤ N → ∀ (t : Tm), tsize t < 2^30 → FCall Tryd.prog G 12 [.pu (patc 0 p), .pu (tmc 0 t)] (fitV 0 (fitsM p t)) := by
  intro N
  induction N with
  | zero => intro p h; cases p; simp [psize] at h
  | succ N ih =>
  intro p hp t hN
  obtain ⟨k, n, r, ks⟩ := p
  obtain ⟨k', n', r', ks', cs'⟩ := t
  simp only [psize] at hp
  have hsz : 1 + tsizeL ks' + csizeL cs' < 2^30 := by simpa only [tsize] using hN
  have hlen := length_psizeL ks
  have hlen' := length_tsizeL ks'
  refine FCall.of_tri tbl 90 Tryd.func12 rfl rfl rfl fun w0 M ρ0 D0 => ?_
  refine Tri.fact (i := 0) rfl (fun D w x h => pat_wf h) (fun hr => ?_)
  refine Tri.fact (i := 1) rfl (fun D w x h => tm_wf h) (fun hr' => ?_)
  simp only [wfP, wfT] at hr hr'
  refine yR ?_
  refine s_box SS 2 ?_
  refine s_box SS 3 ?_
  refine yB ?_
  refine yB ?_
  refine e_seqN [2, 3] ?_
  repeat refine Tri.seq ?_
  refine Tri.block ?_
  refine yR ?_
  refine yF ?_
  refine yL ?_
  refine yI ?_
  refine yA ?_
  refine e_seq ?_
  repeat refine Tri.seq ?_
  refine Tri.cond rfl (fun h0 => ?_) (fun h0 => ?_)
  · skip
    have hf : fitsM (.mk k n r ks) (.mk k' n' r' ks' cs') = ([.mk k' n' r' ks' cs'], true) := by simp at h0; simp [fitsM, h0]
    refine yR ?_
    refine yL ?_
    refine s_val (v_callD (fun _ => refOwn_c _ (.mk k' n' r' ks' cs') (Nat.le_refl _) hN)) ?_
    refine yZ ?_
    refine yA ?_
    refine yB ?_
    refine e_seq ?_
    repeat refine Tri.seq ?_
    rw [hf]
    exact Tri.ret ⟨.inr rfl, ret2 rfl resV_tmp (ToPu.imp (by repeat constructor)) resV_tmp (VImp.refl _)⟩
  · skip
    refine yR ?_
    refine yF ?_
    refine yL ?_
    refine yI ?_
    refine yA ?_
    refine e_seq ?_
    repeat refine Tri.seq ?_
    refine Tri.cond rfl (fun h1 => ?_) (fun h1 => ?_)
    · skip
      have hf : fitsM (.mk k n r ks) (.mk k' n' r' ks' cs') = ([], k' == 2 && n' == n) := by simp at h1; simp [fitsM, h1, Tm.kind, Tm.num]
      refine yR ?_
      refine yF ?_
      refine yL ?_
      refine yI ?_
      refine yM ?_
      refine xF ?_
      refine xL ?_
      refine xF ?_
      refine xL ?_
      refine xI ?_
      refine yN ?_
      refine yB ?_
      refine yA ?_
      refine e_draw ?_
      repeat refine Tri.seq ?_
      rw [hf]
      exact Tri.ret ⟨.inr rfl, ret2 rfl resV_tmp (ToPu.imp (by repeat constructor)) resV_tmp (VImp.refl _)⟩
    · skip
      refine yR ?_
      refine yF ?_
      refine yL ?_
      refine yI ?_
      refine yM ?_
      refine xF ?_
      refine xL ?_
      refine xI ?_
      refine yO ?_
      refine yM ?_
      refine xF ?_
      refine xL ?_
      refine xF ?_
      refine xL ?_
      refine s_gg zG (v_bin SS (h := bin_neS (hr'.1.trans hr.1.symm))) ?_
      refine yO ?_
      refine yM ?_
      refine xF ?_
      refine xL ?_
      refine xF ?_
      refine xL ?_
      refine xI ?_
      refine yO ?_
      refine yM ?_
      refine xF ?_
      refine xL ?_
      refine xC ?_
      refine xF ?_
      refine xL ?_
      refine xC ?_
      refine xI ?_
      refine yO ?_
      refine yA ?_
      refine e_seq ?_
      repeat refine Tri.seq ?_
      refine Tri.cond rfl (fun h2 => ?_) (fun h2 => ?_)
      · skip
        have hf : fitsM (.mk k n r ks) (.mk k' n' r' ks' cs') = ([], false) := by
          rw [tms_length, pats_length] at h2
          simp only [beq_eq_false_iff_ne, ne_eq] at h0 h1
          simp only [fitsM, if_neg h0, if_neg h1]
          by_cases h3 : k = 3
          · rw [if_pos h3]; subst h3; exact if_pos (by simpa [Tm.kind, Tm.num, Tm.ref, Tm.kids] using h2)
          · rw [if_neg h3]
        refine yR ?_
        refine yB ?_
        refine yB ?_
        refine e_seq ?_
        repeat refine Tri.seq ?_
        rw [hf]
        exact Tri.ret ⟨.inr rfl, ret2 rfl resV_tmp (ToPu.imp (by repeat constructor)) resV_tmp (VImp.refl _)⟩
      · skip
        rw [tms_length, pats_length] at h2
        have h3 : k = 3 := by simp only [Bool.or_eq_false_iff, bne_eq_false_iff_eq] at h2; exact h2.1.1.1.1
        have hll : ks'.length = ks.length := by simp only [Bool.or_eq_false_iff, bne_eq_false_iff_eq] at h2; omega
        have hf : fitsM (.mk k n r ks) (.mk k' n' r' ks' cs') = fitsL ks ks' := by
          simp only [beq_eq_false_iff_ne, ne_eq] at h0 h1
          simp only [fitsM, if_neg h0, if_neg h1, if_pos h3]
          subst h3
          exact if_neg (by simp only [Bool.not_eq_true]; simpa [Tm.kind, Tm.num, Tm.ref, Tm.kids] using h2)
        refine Tri.skip ?_
        refine yR ?_
        refine yB ?_
        refine e_seq ?_
        refine yR ?_
        refine yB ?_
        refine e_seq ?_
        repeat refine Tri.seq ?_
        refine Tri.block (Tri.loopW (σ := {x : Nat × List Tm // fitsL (ks.take x.1) (ks'.take x.1) = (x.2, true)}) (fun i => ⟨[(2, .ptr 2 [] 26), (3, .ptr 3 [] 30), (6, .ow 0 30 (tmsc 0 i.1.2)), (7, iv .i64 i.1.1)], [(2, .var 26 (.pu (patc 0 (.mk k n r ks)))), (3, .var 30 (.pu (tmc 0 (.mk k' n' r' ks' cs'))))]⟩) (fun i => ks.length - i.1.1) ⟨(0, []), by simp [fitsL]⟩ ?_ ?_ (fun i => ?_))
        · repeat (first | exact .nil | refine .cons rfl (by first | exact .refl | (focus ((repeat constructor); done)) | (exact .nilcOw)) ?_)
        · repeat (first | exact .nil | refine .cons rfl (by first | exact .refl | (focus ((repeat constructor); done)) | (exact .nilcOw)) ?_)
        refine yR ?_
        refine yM ?_
        refine yF ?_
        refine yK ?_
        refine yC ?_
        refine yI ?_
        refine e_seq ?_
        repeat refine Tri.seq ?_
        refine Tri.cond rfl (fun h3 => ?_) (fun h3 => ?_)
        · skip
          have hi : i.1.1 < ks.length := by rw [pats_length] at h3; simpa using h3
          have hi' : i.1.1 < ks'.length := by omega
          have htk := fitsL_take hi hi'
          rw [i.2] at htk
          have hsp := psizeL_get hi
          have hst := tsize_mem (List.getElem_mem hi')
          refine Tri.skip ?_
          repeat refine Tri.seq ?_
          refine Tri.block ?_
          refine yR ?_
          refine yF ?_
          refine yK ?_
          refine yM ?_
          refine s_val (v_index SS (h0 := by omega) (hp := pats_get hi)) ?_
          refine yL ?_
          refine yF ?_
          refine yK ?_
          refine yM ?_
          refine s_val (v_index SS (h0 := by omega) (hp := tms_get hi')) ?_
          refine yL ?_
          refine s_val (v_callD (fun _ => ih ks[i.1.1] (by omega) ks'[i.1.1] (by omega))) ?_
          refine yM ?_
          refine yX ?_
          refine yX ?_
          refine yA ?_
          refine yA ?_
          refine e_draw ?_
          refine yR ?_
          refine yM ?_
          refine yQ ?_
          refine e_seq ?_
          repeat refine Tri.seq ?_
          refine Tri.cond rfl (fun h4 => ?_) (fun h4 => ?_)
          · skip
            have hf2 : fitsL ks ks' = ([], false) := fitsL_stop (i := i.1.1 + 1) (by
              rw [htk]; simp at h4; simp [fitAdd, h4])
            rw [hf2] at hf
            refine yR ?_
            refine yB ?_
            refine yB ?_
            refine e_seq ?_
            repeat refine Tri.seq ?_
            rw [hf]
            exact Tri.ret ⟨.inr rfl, ret2 rfl resV_tmp (ToPu.imp (by repeat constructor)) resV_tmp (VImp.refl _)⟩
          · skip
            have hnext : fitsL (ks.take (i.1.1 + 1)) (ks'.take (i.1.1 + 1)) = (i.1.2 ++ (fitsM ks[i.1.1] ks'[i.1.1]).1, true) := by
              rw [htk]; simp at h4; simp [fitAdd, h4]
            refine Tri.skip ?_
            refine yR ?_
            refine yM ?_
            refine yM ?_
            refine s_app1 6 ?_ ?_
            · have h1 := fitsL_b (ks.take i.1.1) (ks'.take i.1.1)
              have h2 := fits_b ks[i.1.1] ks'[i.1.1]
              have h3 := tsizeL_take (ks := ks') (i := i.1.1)
              rw [i.2] at h1
              simp only [tms_length] at h1 ⊢
              omega
            refine yA ?_
            refine e_seq ?_
            refine yR ?_
            refine yM ?_
            refine yI ?_
            refine yA ?_
            refine e_seq ?_
            refine ⟨⟨(i.1.1 + 1, i.1.2 ++ (fitsM ks[i.1.1] ks'[i.1.1]).1), hnext⟩, by show ks.length - (i.1.1 + 1) < ks.length - i.1.1; omega, le_of ?_ ?_⟩
            · repeat (first | exact SubE.nil | refine SubE.cons rfl (by first | rfl | (rw [wrap64 (by omega) (by omega)]; rfl) | (simp only [tms_eq, List.map_append])) ?_)
            · repeat (first | exact SubH.nil | refine SubH.cons rfl (by first | rfl | (rw [wrap64 (by omega) (by omega)]; rfl) | (simp only [tms_eq, List.map_append])) ?_)
        · skip
          have hf2 : fitsL ks ks' = (i.1.2, true) := by
            have := i.2
            rwa [List.take_of_length_le (by rw [pats_length] at h3; simp at h3; omega), List.take_of_length_le (by rw [pats_length] at h3; simp at h3; omega)] at this
          rw [hf2] at hf
          refine Tri.exit ?_
          refine yR ?_
          refine yM ?_
          refine yA ?_
          refine yB ?_
          refine e_seq ?_
          repeat refine Tri.seq ?_
          rw [hf]
          exact Tri.ret ⟨.inr rfl, ret2 rfl resV_tmp (ToPu.imp (by repeat constructor)) resV_tmp (VImp.refl _)⟩
end Go.Proofs.YtkcgkignhpepkaaDoor

/- Numbers that are ints. -/
namespace Go.Proofs.YtkcgkignhpepkaaDoor
open Go Hs
variable {G : List (Nat × TypeId × Pu)}

/-! Numbers that are ints. -/
mutual
def rgT : Tm → Prop
  | .mk _ n _ ks cs => (-2^63 ≤ n ∧ n < 2^63) ∧ rgK ks ∧ rgC cs
def rgK : List Tm → Prop
  | [] => True
  | t :: ts => rgT t ∧ rgK ts
def rgC : List Cs → Prop
  | [] => True
  | c :: cs => rgS c ∧ rgC cs
def rgS : Cs → Prop
  | .mk _ t => rgT t
end
end Go.Proofs.YtkcgkignhpepkaaDoor

/- Whether a term is more than is looked at. -/
namespace Go.Proofs.YtkcgkignhpepkaaDoor
open Go Hs
variable {G : List (Nat × TypeId × Pu)}

abbrev gcO (c : Int) : List (Nat × Ob) := [(3, .var 3 (iv .i64 c))]
abbrev gpV : PV := .fn (.func 23) [] [.ptr 3 [] 3, .ptr 4 [] 65]
abbrev gtV : PV := .fn (.func 25) [] [.ptr 3 [] 3, .ptr 5 [] 31, .ptr 4 [] 65]
abbrev gcV : PV := .fn (.func 28) [] [.ptr 4 [] 65, .ptr 5 [] 31]
abbrev gpO : List (Nat × Ob) := [(4, .var 65 gpV)]
abbrev gtO : List (Nat × Ob) := [(4, .var 65 gpV), (5, .var 31 gtV)]
abbrev MD : Int := 1152921504606846976

theorem gp_c : ∀ (N : Nat) (p : Pat), psize p ≤ N → N < 2^40 → ∀ (d c : Int), 0 ≤ c ∧ c ≤ 400 → 0 ≤ d ∧ d + N ≤ 2^50 →
    HCall Tryd.prog G 23 [.pu (patc 0 p), .ptr 3 [] 3, .ptr 4 [] 65] gpO (gcO c) (bv (longP 400 MD d c p).1) (gcO (longP 400 MD d c p).2) [] := by
  intro N
  induction N with
  | zero => intro p h; cases p; simp [psize] at h
  | succ N ih =>
  intro p hp hN d c hc hd
  obtain ⟨k, n, r, ks⟩ := p
  simp only [psize] at hp
  have hlen := length_psizeL ks
  have key : c + 1 ≤ 400 → ∃ r, r.isSome = (longPs 400 MD (d + 1) (c + 1) ks).1 ∧ AnyC Tryd.prog G 23 [] [.ptr 3 [] 3, .ptr 4 [] 65] gpO (patsc 0 ks) (gcO (c + 1)) r (gcO (longPs 400 MD (d + 1) (c + 1) ks).2) := fun hc' => by
    rw [longPs_eq, pats_eq]
    refine AnyC.state (patc 0) (longP 400 MD (d + 1)) gcO (fun c => 0 ≤ c ∧ c ≤ 400) (fun _ => rfl) ks (fun a ha c hc => ?_) (c + 1) ⟨by omega, hc'⟩
    have hb := longP_b (mn := 400) (md := MD) a (d + 1) c hc.2
    exact ⟨ih a (by have := psize_mem ha; omega) (by omega) (d + 1) c hc (by omega), fun e => ⟨by have := hb.1; omega, hb.2.2 e⟩⟩
  refine HCall.of_triD tbl 15 [3, 4] Tryd.func23 rfl rfl rfl fun w0 M ρ0 D0 => ?_
  by_cases hcut : 400 < c + 1
  · have e : longP 400 MD d c (.mk k n r ks) = (true, c + 1) := by simp only [longP]; rw [if_pos (.inl hcut)]
    rw [e, ← wrap64 (n := c + 1) (by omega) (by omega)]
    have hb0 : decide (IntKind.i64.wrap (c + 1) > 400) = true := by rw [wrap64 (by omega) (by omega)]; simp; omega
    refine yR ?_
    refine s_box SS 31 ?_
    refine yB ?_
    refine e_seqN [31] ?_
    refine yR ?_
    refine yL ?_
    refine yI ?_
    refine yS ?_
    refine e_seq ?_
    refine yR ?_
    refine yL ?_
    refine yI ?_
    refine yM ?_
    refine xF ?_
    refine xL ?_
    refine xL ?_
    refine s_callG zG (f := 24) (args := [.pu (.sl 0 26 (patsc 0 ks)), gpV]) (HR := []) (H := []) (H' := []) (v := bv false) (fun e => by simp [hb0] at e) (fun _ => .nil) ?_
    refine yO ?_
    refine yA ?_
    refine e_seq ?_
    repeat refine Tri.seq ?_
    exact Tri.ret ⟨.inr rfl, ret1 rfl resV_tmp (bv_imp (by rw [hb0]; rfl)), by repeat (first | exact OutH.nil | refine OutH.cons rfl (by first | exact ObImp.refl _ | exact OWk.imp (by repeat constructor)) ?_)⟩
  · obtain ⟨r1, hr1, hA⟩ := key (by omega)
    have e : longP 400 MD d c (.mk k n r ks) = longPs 400 MD (d + 1) (c + 1) ks := by simp only [longP]; rw [if_neg (by simp only [MD]; omega)]
    have hb0 : decide (IntKind.i64.wrap (c + 1) > 400) = false := by rw [wrap64 (by omega) (by omega)]; simp; omega
    rw [e]
    generalize longPs 400 MD (d + 1) (c + 1) ks = q1 at hr1 hA ⊢
    obtain ⟨b1, c1⟩ := q1
    simp only at hr1 hA ⊢
    rw [← wrap64 (n := c + 1) (by omega) (by omega)] at hA
    refine yR ?_
    refine s_box SS 31 ?_
    refine yB ?_
    refine e_seqN [31] ?_
    refine yR ?_
    refine yL ?_
    refine yI ?_
    refine yS ?_
    refine e_seq ?_
    refine yR ?_
    refine yL ?_
    refine yI ?_
    refine yM ?_
    refine xF ?_
    refine xL ?_
    refine xL ?_
    refine s_callG zG (f := 24) (args := [.pu (.sl 0 26 (patsc 0 ks)), gpV]) (HR := gpO) (H := gcO (IntKind.i64.wrap (c + 1))) (H' := gcO c1) (v := bv b1) (fun _ => hr1 ▸ conPat_d (lo := 0) gpV (by rw [pats_length]; omega) hA) (fun e => by simp [hb0] at e) ?_
    refine yO ?_
    refine yA ?_
    refine e_seq ?_
    repeat refine Tri.seq ?_
    exact Tri.ret ⟨.inr rfl, ret1 rfl resV_tmp (bv_imp (by rw [hb0]; rfl)), by repeat (first | exact OutH.nil | refine OutH.cons rfl (by first | exact ObImp.refl _ | exact OWk.imp (by repeat constructor)) ?_)⟩

theorem gc_c (p : Pat) (t : Tm) (d c : Int) (hc : 0 ≤ c ∧ c ≤ 400) (hd : 0 ≤ d ∧ d + psize p ≤ 2^50) (hpz : psize p < 2^40)
    (h2 : (longP 400 MD d c p).1 = false → HCall Tryd.prog G 25 [.pu (tmc 0 t), .ptr 3 [] 3, .ptr 5 [] 31, .ptr 4 [] 65] gtO (gcO (longP 400 MD d c p).2) (bv (longT 400 MD d (longP 400 MD d c p).2 t).1) (gcO (longT 400 MD d (longP 400 MD d c p).2 t).2) []) :
    HCall Tryd.prog G 28 [.pu (csec 0 (.mk p t)), .ptr 4 [] 65, .ptr 5 [] 31] gtO (gcO c) (bv (longC 400 MD d c (.mk p t)).1) (gcO (longC 400 MD d c (.mk p t)).2) [] := by
  have h := gp_c (G := G) _ p (Nat.le_refl _) hpz d c hc hd
  rw [grC_parts]
  generalize hb1 : longP 400 MD d c p = r1 at h h2 ⊢
  obtain ⟨b1, c1⟩ := r1
  simp only at h h2 ⊢
  refine HCall.of_triD tbl 15 [3, 4, 5] Tryd.func28 rfl rfl rfl fun w0 M ρ0 D0 => ?_
  refine yR ?_
  refine s_box SS 31 ?_
  refine yB ?_
  refine e_seqN [31] ?_
  refine yR ?_
  refine yL ?_
  refine yF ?_
  refine yL ?_
  refine s_call (h) ?_
  refine yM ?_
  refine xL ?_
  refine xF ?_
  refine xL ?_
  refine s_callG zG (f := 25) (args := [.pu (tmc 0 t), .ptr 3 [] 3, .ptr 5 [] 31, .ptr 4 [] 65]) (HR := gtO) (H := gcO c1) (H' := gcO (if b1 = true then c1 else (longT 400 MD d c1 t).2)) (v := bv (longT 400 MD d c1 t).1) (fun e => ?_) (fun e => ?_) ?_
  · have e' : b1 = false := by simpa using e
    have := h2 e'
    simpa [e'] using this
  · have e' : b1 = true := by simpa using e
    exact .cons rfl (by simp [e']) .nil
  refine yO ?_
  refine yA ?_
  refine e_seq ?_
  repeat refine Tri.seq ?_
  exact Tri.ret ⟨.inr rfl, ret1 rfl resV_tmp (VImp.refl _), by repeat (first | exact OutH.nil | refine OutH.cons rfl (by first | exact ObImp.refl _ | exact OWk.imp (by repeat constructor)) ?_)⟩

theorem gT_parts (d c k n : Int) (r : List Int) (ks : List Tm) (cs : List Cs) (h : ¬ (400 < c + 1 ∨ MD < d)) : longT 400 MD d c (.mk k n r ks cs) = ((longTs 400 MD (d + 1) (c + 1) ks).1 || (longCs 400 MD (d + 1) (longTs 400 MD (d + 1) (c + 1) ks).2 cs).1, if (longTs 400 MD (d + 1) (c + 1) ks).1 then (longTs 400 MD (d + 1) (c + 1) ks).2 else (longCs 400 MD (d + 1) (longTs 400 MD (d + 1) (c + 1) ks).2 cs).2) := by
  simp only [longT, if_neg h]
  rcases longTs 400 MD (d + 1) (c + 1) ks with ⟨b, c'⟩
  cases b <;> simp

set_option maxHeartbeats 1000000 in
theorem gt_c : ∀ (N : Nat) (t : Tm), tsize t ≤ N → N < 2^40 → ∀ (d c : Int), 0 ≤ c ∧ c ≤ 400 → 0 ≤ d ∧ d + N ≤ 2^50 →
    HCall Tryd.prog G 25 [.pu (tmc 0 t), .ptr 3 [] 3, .ptr 5 [] 31, .ptr 4 [] 65] gtO (gcO c) (bv (longT 400 MD d c t).1) (gcO (longT 400 MD d c t).2) [] := by
  intro N
  induction N with
  | zero => intro t h; have := tsize_pos t; omega
  | succ N ih =>
  intro t hp hN d c hc hd
  obtain ⟨k, n, r, ks, cs⟩ := t
  simp only [tsize] at hp
  have hlen := length_tsizeL ks
  have hlenc := length_csizeL cs
  have keyT : c + 1 ≤ 400 → ∃ r, r.isSome = (longTs 400 MD (d + 1) (c + 1) ks).1 ∧ AnyC Tryd.prog G 25 [] [.ptr 3 [] 3, .ptr 5 [] 31, .ptr 4 [] 65] gtO (tmsc 0 ks) (gcO (c + 1)) r (gcO (longTs 400 MD (d + 1) (c + 1) ks).2) := fun hc' => by
    rw [longTs_eq, tms_eq]
    refine AnyC.state (tmc 0) (longT 400 MD (d + 1)) gcO (fun c => 0 ≤ c ∧ c ≤ 400) (fun _ => rfl) ks (fun a ha c hc => ?_) (c + 1) ⟨by omega, hc'⟩
    have hb := longT_b (mn := 400) (md := MD) a (d + 1) c hc.2
    exact ⟨ih a (by have := tsize_mem ha; omega) (by omega) (d + 1) c hc (by omega), fun e => ⟨by have := hb.1; omega, hb.2.2 e⟩⟩
  have keyC : ∀ c1, 0 ≤ c1 ∧ c1 ≤ 400 → ∃ r, r.isSome = (longCs 400 MD (d + 1) c1 cs).1 ∧ AnyC Tryd.prog G 28 [] [.ptr 4 [] 65, .ptr 5 [] 31] gtO (cssc 0 cs) (gcO c1) r (gcO (longCs 400 MD (d + 1) c1 cs).2) := fun c1 hc1 => by
    rw [longCs_eq, css_eq]
    refine AnyC.state (csec 0) (longC 400 MD (d + 1)) gcO (fun c => 0 ≤ c ∧ c ≤ 400) (fun _ => rfl) cs (fun a ha c hc => ?_) c1 hc1
    have hb := longC_b (mn := 400) (md := MD) a (d + 1) c hc.2
    have hsz := csize_mem ha
    obtain ⟨q, b⟩ := a
    simp only [csize] at hsz
    have hp1 := longP_b (mn := 400) (md := MD) q (d + 1) c hc.2
    have htp := tsize_pos b
    have hqp := psize_pos q
    exact ⟨gc_c q b (d + 1) c hc (by omega) (by omega) (fun e => ih b (by omega) (by omega) (d + 1) _ ⟨by have := hp1.1; omega, hp1.2.2 e⟩ (by omega)), fun e => ⟨by have := hb.1; omega, hb.2.2 e⟩⟩
  refine HCall.of_triD tbl 22 [3, 4, 5] Tryd.func25 rfl rfl rfl fun w0 M ρ0 D0 => ?_
  by_cases hcut : 400 < c + 1
  · have e : longT 400 MD d c (.mk k n r ks cs) = (true, c + 1) := by simp only [longT]; rw [if_pos (.inl hcut)]
    rw [e, ← wrap64 (n := c + 1) (by omega) (by omega)]
    have hb0 : decide (IntKind.i64.wrap (c + 1) > 400) = true := by rw [wrap64 (by omega) (by omega)]; simp; omega
    refine yR ?_
    refine s_box SS 31 ?_
    refine yB ?_
    refine e_seqN [31] ?_
    refine yR ?_
    refine yL ?_
    refine yI ?_
    refine yS ?_
    refine e_seq ?_
    refine yR ?_
    refine yL ?_
    refine yI ?_
    refine yM ?_
    refine xF ?_
    refine xL ?_
    refine xL ?_
    refine s_callG zG (f := 26) (args := [.pu (.sl 0 30 (tmsc 0 ks)), gtV]) (HR := []) (H := []) (H' := []) (v := bv false) (fun e => by simp [hb0] at e) (fun _ => .nil) ?_
    refine yO ?_
    refine yM ?_
    refine xF ?_
    refine xL ?_
    refine s_gg zG (v_mkFnD SS) ?_
    refine s_callG zG (f := 27) (args := [.pu (.sl 0 34 (cssc 0 cs)), gcV]) (HR := []) (H := []) (H' := []) (v := bv false) (fun e => by simp [hb0] at e) (fun _ => .nil) ?_
    refine yO ?_
    refine yA ?_
    refine e_seq ?_
    repeat refine Tri.seq ?_
    exact Tri.ret ⟨.inr rfl, ret1 rfl resV_tmp (bv_imp (by rw [hb0]; rfl)), by repeat (first | exact OutH.nil | refine OutH.cons rfl (by first | exact ObImp.refl _ | exact OWk.imp (by repeat constructor)) ?_)⟩
  · obtain ⟨r1, hr1, hA⟩ := keyT (by omega)
    have hb1 := longTs_b (mn := 400) (md := MD) ks (d + 1) (c + 1) (by omega)
    have hb0 : decide (IntKind.i64.wrap (c + 1) > 400) = false := by rw [wrap64 (by omega) (by omega)]; simp; omega
    rw [gT_parts d c k n r ks cs (by simp only [MD]; omega)]
    generalize longTs 400 MD (d + 1) (c + 1) ks = q1 at hr1 hA hb1 ⊢
    obtain ⟨b1, c1⟩ := q1
    obtain ⟨hb1, _, hb2⟩ := hb1
    simp only at hr1 hA hb1 hb2 ⊢
    rw [← wrap64 (n := c + 1) (by omega) (by omega)] at hA
    have hC : b1 = false → ∃ r2 : Option Nat, r2.isSome = (longCs 400 MD (d + 1) c1 cs).1 ∧ _ := fun e => keyC c1 ⟨by omega, hb2 e⟩
    refine yR ?_
    refine s_box SS 31 ?_
    refine yB ?_
    refine e_seqN [31] ?_
    refine yR ?_
    refine yL ?_
    refine yI ?_
    refine yS ?_
    refine e_seq ?_
    refine yR ?_
    refine yL ?_
    refine yI ?_
    refine yM ?_
    refine xF ?_
    refine xL ?_
    refine xL ?_
    refine s_callG zG (f := 26) (args := [.pu (.sl 0 30 (tmsc 0 ks)), gtV]) (HR := gtO) (H := gcO (IntKind.i64.wrap (c + 1))) (H' := gcO c1) (v := bv b1) (fun _ => hr1 ▸ conTm_d (lo := 0) gtV (by rw [tms_length]; omega) hA) (fun e => by simp [hb0] at e) ?_
    refine yO ?_
    refine yM ?_
    refine xF ?_
    refine xL ?_
    refine s_gg zG (v_mkFnD SS) ?_
    refine s_callG zG (f := 27) (args := [.pu (.sl 0 34 (cssc 0 cs)), gcV]) (HR := gtO) (H := gcO c1) (H' := gcO (if b1 = true then c1 else (longCs 400 MD (d + 1) c1 cs).2)) (v := bv (longCs 400 MD (d + 1) c1 cs).1) (fun e => ?_) (fun e => ?_) ?_
    · have e' : b1 = false := by simpa [hb0] using e
      obtain ⟨r2, hr2, hA2⟩ := hC e'
      simp only [e', Bool.false_eq_true, if_false]
      exact hr2 ▸ conCs_d (lo := 0) gcV (by rw [css_length]; omega) hA2
    · have e' : b1 = true := by simpa [hb0] using e
      exact .cons rfl (by simp [e']) .nil
    refine yO ?_
    refine yA ?_
    refine e_seq ?_
    repeat refine Tri.seq ?_
    exact Tri.ret ⟨.inr rfl, ret1 rfl resV_tmp (bv_imp (by rw [hb0]; rfl)), by repeat (first | exact OutH.nil | refine OutH.cons rfl (by first | exact ObImp.refl _ | exact OWk.imp (by repeat constructor)) ?_)⟩

def greatM (t : Tm) : Bool := (longT 400 MD 0 0 t).1
theorem great_size {t : Tm} (h : greatM t = false) : tsize t ≤ 400 := by
  obtain ⟨_, h2⟩ := longT_ls 400 MD t 0 0
  unfold greatM at h
  refine Nat.le_of_not_lt fun hlt => ?_
  have := h2 (by omega)
  rw [h] at this; cases this
theorem great_c (t : Tm) (hN : tsize t < 2^40) : FCall Tryd.prog G 5 [.pu (tmc 0 t)] (bv (greatM t)) := by
  refine FCall.of_tri tbl 11 Tryd.func5 rfl rfl rfl fun w0 M ρ0 D0 => ?_
  refine yR ?_
  refine s_box SS 1 ?_
  refine yB ?_
  refine e_seqN [1] ?_
  refine yR ?_
  refine s_alloc SS 3 ?_
  refine yS ?_
  refine e_seqN [3] ?_
  refine yR ?_
  refine s_alloc SS 4 ?_
  refine e_seqN [4] ?_
  refine yR ?_
  refine s_val (v_mkFnD SS) ?_
  refine yS ?_
  refine e_seq ?_
  refine yR ?_
  refine s_alloc SS 5 ?_
  refine e_seqN [5] ?_
  refine yR ?_
  refine s_val (v_mkFnD SS) ?_
  refine yS ?_
  refine e_seq ?_
  refine yR ?_
  refine yL ?_
  refine yL ?_
  refine s_call (gt_c _ t (Nat.le_refl _) hN 0 0 (by omega) (by omega)) ?_
  refine yA ?_
  refine e_seq ?_
  repeat refine Tri.seq ?_
  exact Tri.ret ⟨.inr rfl, ret1 rfl resV_tmp (VImp.refl _)⟩
end Go.Proofs.YtkcgkignhpepkaaDoor

/- Memory that may be spoilt: what it is, and that it stays so. -/
namespace Go.Proofs.YtkcgkignhpepkaaDoor
open Go Hs

/-- The i-th element of a row. -/
def el (c : Array Value) (k i : Nat) : List Value := (c.toList.drop (i * k)).take k
theorem el_get (c : Array Value) (k i j : Nat) : (el c k i)[j]? = if j < k then c[i * k + j]? else none := by
  simp only [el, List.getElem?_take, List.getElem?_drop, Array.getElem?_toList]
theorem el_len {c : Array Value} {k i : Nat} (h : (i + 1) * k ≤ c.size) : (el c k i).length = k := by
  simp only [el, List.length_take, List.length_drop, Array.length_toList]
  rw [Nat.succ_mul] at h
  omega
theorem el_splice {c : Array Value} {k i0 i : Nat} {v : List Value} (hv : v.length = k) (h : (i0 + 1) * k ≤ c.size) :
    el (c.toList.take (i0 * k) ++ v ++ c.toList.drop (i0 * k + k)).toArray k i = if i = i0 then v else el c k i := by
  rw [Nat.succ_mul] at h
  have hl : (c.toList.take (i0 * k)).length = i0 * k := by simp; omega
  have hL : ∀ p : Nat, (c.toList.take (i0 * k) ++ v ++ c.toList.drop (i0 * k + k))[p]? = if p < i0 * k then c[p]? else if p < i0 * k + k then v[p - i0 * k]? else c[p]? := fun p => by
    rw [List.append_assoc]
    split
    · rename_i hp
      rw [List.getElem?_append_left (by omega), List.getElem?_take, if_pos hp, Array.getElem?_toList]
    · rename_i hp
      rw [List.getElem?_append_right (by omega), hl]
      split
      · rw [List.getElem?_append_left (by omega)]
      · rw [List.getElem?_append_right (by omega), List.getElem?_drop, Array.getElem?_toList, hv]
        congr 1
        omega
  refine List.ext_getElem? fun j => ?_
  rw [el_get]
  simp only [List.getElem?_toArray, hL]
  by_cases hj : j < k
  · rw [if_pos hj]
    rcases Nat.lt_trichotomy i i0 with hi | rfl | hi
    · have h1 : (i + 1) * k ≤ i0 * k := Nat.mul_le_mul_right k hi
      rw [Nat.succ_mul] at h1
      rw [if_pos (by omega), if_neg (by omega), el_get, if_pos hj]
    · rw [if_neg (by omega), if_pos (by omega), if_pos rfl]
      congr 1
      omega
    · have h1 : (i0 + 1) * k ≤ i * k := Nat.mul_le_mul_right k hi
      rw [Nat.succ_mul] at h1
      rw [if_neg (by omega), if_neg (by omega), if_neg (by omega), el_get, if_pos hj]
  · rw [if_neg hj]
    split
    · exact (List.getElem?_eq_none (by omega)).symm
    · rw [el_get, if_neg hj]

section
variable (m hi : Nat) (w : World)
/-- A slice of elements that are soft, whose row is a block from m up to hi. -/
def softS (E : TypeId) (k : Nat) (S : List Value → Prop) (x : Value) : Prop :=
  (∃ a cap, x = .slice a 0 cap) ∨ ∃ b n cap c, x = .slice (some ⟨b, 0, none⟩) n cap ∧ n < 1099511627776 ∧ m ≤ b ∧ b < hi ∧ w.heap[b]? = some (.cells c E (0, 0)) ∧ n * k ≤ c.size ∧ ∀ i, i < n → S (el c k i)
def softP : Nat → List Value → Prop
  | 0, _ => False
  | n + 1, l => ∃ pre s, l = pre ++ [s] ∧ pre.length = 34 ∧ softS m hi w 26 35 (softP n) s
def softC (n : Nat) (S : List Value → Prop) (l : List Value) : Prop := ∃ lp lb, l = lp ++ lb ∧ lp.length = 35 ∧ softP m hi w n lp ∧ S lb
def softT : Nat → List Value → Prop
  | 0, _ => False
  | n + 1, l => ∃ pre s1 s2, l = pre ++ [s1, s2] ∧ pre.length = 34 ∧ softS m hi w 30 36 (softT n) s1 ∧ softS m hi w 34 71 (softC m hi w n (softT n)) s2
end

def zeroP (l : List Value) : Prop := ∃ pre a cap, l = pre ++ [.slice a 0 cap] ∧ pre.length = 34
def zeroT (l : List Value) : Prop := ∃ pre a1 c1 a2 c2, l = pre ++ [.slice a1 0 c1, .slice a2 0 c2] ∧ pre.length = 34
def zeroC (l : List Value) : Prop := ∃ lp lb, l = lp ++ lb ∧ zeroP lp ∧ zeroT lb

/-- The rows of a type keep their elements, but for some that lost all that they held. -/
def Wore1 (E : TypeId) (k : Nat) (Z : List Value → Prop) (m hi : Nat) (w w' : World) : Prop := ∀ (b : Nat) (c : Array Value), m ≤ b → b < hi → w.heap[b]? = some (.cells c E (0, 0)) →
  ∃ c', w'.heap[b]? = some (.cells c' E (0, 0)) ∧ c'.size = c.size ∧ ∀ i, (i + 1) * k ≤ c.size → el c' k i = el c k i ∨ Z (el c' k i)
structure Wore (m hi : Nat) (w w' : World) : Prop where
  pt : Wore1 26 35 zeroP m hi w w'
  tm : Wore1 30 36 zeroT m hi w w'
  cs : Wore1 34 71 zeroC m hi w w'

section
variable {E : TypeId} {k : Nat} {Z : List Value → Prop} {m hi : Nat} {w w' w2 : World}
theorem Wore1.same (h : ∀ b : Nat, m ≤ b → b < hi → w'.heap[b]? = w.heap[b]?) : Wore1 E k Z m hi w w' := fun b c h1 h2 hb => ⟨c, (h b h1 h2).trans hb, rfl, fun _ _ => .inl rfl⟩
theorem Wore1.trans (h : Wore1 E k Z m hi w w') (h' : Wore1 E k Z m hi w' w2) : Wore1 E k Z m hi w w2 := fun b c h1 h2 hb => by
  obtain ⟨c1, e1, e2, e3⟩ := h b c h1 h2 hb
  obtain ⟨c2, f1, f2, f3⟩ := h' b c1 h1 h2 e1
  refine ⟨c2, f1, f2.trans e2, fun i hik => ?_⟩
  rcases f3 i (by omega) with g | g
  · rcases e3 i hik with g' | g'
    · exact .inl (g.trans g')
    · exact .inr (g ▸ g')
  · exact .inr g
theorem Wore.same (h : ∀ b : Nat, m ≤ b → b < hi → w'.heap[b]? = w.heap[b]?) : Wore m hi w w' := ⟨.same h, .same h, .same h⟩
theorem Wore.refl : Wore m hi w w := .same fun _ _ _ => rfl
theorem Wore.trans (h : Wore m hi w w') (h' : Wore m hi w' w2) : Wore m hi w w2 := ⟨h.pt.trans h'.pt, h.tm.trans h'.tm, h.cs.trans h'.cs⟩
theorem Wore.grew (g : Grew w w') (hh : hi ≤ w.heap.size) : Wore m hi w w' := .same fun b _ h2 => g.block b (by omega)

theorem Wore1.set {b i0 : Nat} {c : Array Value} {E' : TypeId} {k' : Nat} {v : List Value} {Z' : List Value → Prop} (hb : w.heap[b]? = some (.cells c E (0, 0))) (hv : v.length = k) (hf : (i0 + 1) * k ≤ c.size) (hz : Z v) (hE : E' = E → k' = k) (hZ : E' = E → ∀ l, Z l → Z' l) :
    Wore1 E' k' Z' m hi w (w.setRow b (c.toList.take (i0 * k) ++ v ++ c.toList.drop (i0 * k + k)).toArray) := fun b' c1 h1 h2 hb' => by
  by_cases e : b' = b
  · subst e
    rw [hb] at hb'
    simp at hb'
    obtain ⟨rfl, rfl⟩ := hb'
    obtain rfl := hE rfl
    refine ⟨_, setRow_heap w b' c _ E (0, 0) hb, ?_, fun i hi' => ?_⟩
    · rw [Nat.succ_mul] at hf
      simp
      omega
    · rw [el_splice hv hf]
      split
      · exact .inr (hZ rfl _ hz)
      · exact .inl rfl
  · exact ⟨c1, (setRow_ne w b _ e).trans hb', rfl, fun _ _ => .inl rfl⟩

theorem softS_mono {S S' : List Value → Prop} (W : Wore1 E k Z m hi w w') (h1 : ∀ l, S l → S' l) (h2 : ∀ l l0, S l0 → Z l → S' l) {x : Value} (h : softS m hi w E k S x) : softS m hi w' E k S' x := by
  rcases h with h | ⟨b, n, cap, c, rfl, e0, e1, e2, e3, e4, e5⟩
  · exact .inl h
  · obtain ⟨c', f1, f2, f3⟩ := W b c e1 e2 e3
    refine .inr ⟨b, n, cap, c', rfl, e0, e1, e2, f1, by omega, fun i hin => ?_⟩
    rcases f3 i (Nat.le_trans (Nat.mul_le_mul_right k hin) e4) with g | g
    · rw [g]; exact h1 _ (e5 i hin)
    · exact h2 _ _ (e5 i hin) g
theorem softS_view {S : List Value → Prop} {x : Value} (h : softS m hi w E k S x) : ∃ a n cap, x = .slice a n cap ∧ n < 1099511627776 ∧ ∀ i, i < n → ∃ b c, a = some ⟨b, 0, none⟩ ∧ m ≤ b ∧ b < hi ∧ w.heap[b]? = some (.cells c E (0, 0)) ∧ (i + 1) * k ≤ c.size ∧ S (el c k i) := by
  rcases h with ⟨a, cap, rfl⟩ | ⟨b, n, cap, c, rfl, e0, e1, e2, e3, e4, e5⟩
  · exact ⟨a, 0, cap, rfl, by omega, fun i h => by omega⟩
  · exact ⟨_, n, cap, rfl, e0, fun i h => ⟨b, c, rfl, e1, e2, e3, Nat.le_trans (Nat.mul_le_mul_right k h) e4, e5 i h⟩⟩
theorem softP_mono (W : Wore m hi w w') : ∀ (n : Nat) (l : List Value), softP m hi w n l → softP m hi w' n l
  | 0, _, h => h
  | n + 1, l, ⟨pre, s, e1, e2, e3⟩ => ⟨pre, s, e1, e2, softS_mono W.pt (softP_mono W n) (fun l l0 h0 hz => by
      cases n with
      | zero => exact h0.elim
      | succ n =>
        obtain ⟨pre, a, cap, rfl, hp⟩ := hz
        exact ⟨pre, _, rfl, hp, .inl ⟨a, cap, rfl⟩⟩) e3⟩
theorem zero_softP {n : Nat} {l l0 : List Value} (h0 : softP m hi w n l0) (hz : zeroP l) : softP m hi w' n l := by
  cases n with
  | zero => exact h0.elim
  | succ n =>
    obtain ⟨pre, a, cap, rfl, hp⟩ := hz
    exact ⟨pre, _, rfl, hp, .inl ⟨a, cap, rfl⟩⟩
theorem zero_softT {n : Nat} {l l0 : List Value} (h0 : softT m hi w n l0) (hz : zeroT l) : softT m hi w' n l := by
  cases n with
  | zero => exact h0.elim
  | succ n =>
    obtain ⟨pre, a, cap, a2, cap2, rfl, hp⟩ := hz
    exact ⟨pre, _, _, rfl, hp, .inl ⟨a, cap, rfl⟩, .inl ⟨a2, cap2, rfl⟩⟩
theorem softT_mono (W : Wore m hi w w') : ∀ (n : Nat) (l : List Value), softT m hi w n l → softT m hi w' n l
  | 0, _, h => h
  | n + 1, l, ⟨pre, s1, s2, e1, e2, e3, e4⟩ => ⟨pre, s1, s2, e1, e2, softS_mono W.tm (softT_mono W n) (fun l l0 h0 hz => zero_softT h0 hz) e3,
      softS_mono W.cs (fun l ⟨lp, lb, f1, f2, f3, f4⟩ => ⟨lp, lb, f1, f2, softP_mono W n lp f3, softT_mono W n lb f4⟩) (fun l l0 ⟨lp, lb, f1, f2, f3, f4⟩ ⟨zp, zb, g1, g2, g3⟩ => ⟨zp, zb, g1, by
        obtain ⟨pre, a, cap, rfl, hp⟩ := g2
        simp [hp], zero_softP f3 g2, zero_softT f4 g3⟩) e4⟩
end
end Go.Proofs.YtkcgkignhpepkaaDoor

/- Fresh trees may be spoilt. -/
namespace Go.Proofs.YtkcgkignhpepkaaDoor
open Go Hs

section
variable {D : Nat → Nat → Prop} {w : World} {m hi : Nat}
theorem prs_el {k : Nat} {E : TypeId} : ∀ {ps : List Pu} {x : List Value}, PRs Tryd.prog D w (List.replicate ps.length (k, E)) ps x → x.length = ps.length * k ∧ ∀ (i : Nat) p, ps[i]? = some p → PR Tryd.prog D w p ((x.drop (i * k)).take k)
  | [], _, .nil => ⟨by simp, fun i p h => by simp at h⟩
  | p :: ps, _, .cons (x := x) (y := y) hp hs _ h => by
    obtain ⟨h1, h2⟩ := prs_el (ps := ps) h
    refine ⟨by simp [h1, hs, Nat.succ_mul]; omega, fun i q hq => ?_⟩
    cases i with
    | zero =>
      simp at hq
      subst hq
      simp [← hs]
      exact hp
    | succ i =>
      simp at hq
      have := h2 i q hq
      rw [Nat.succ_mul, List.drop_append, List.drop_eq_nil_of_le (by omega), List.nil_append, hs, Nat.add_sub_cancel]
      exact this
theorem softS_of {E : TypeId} {k : Nat} {S : List Value → Prop} (hm : 0 < m) (hh : w.heap.size ≤ hi) (hk : Tryd.prog.cellsOf E = k) {ps : List Pu} {s : Value} (h : PR Tryd.prog D w (.sl m E ps) [s]) (hln : ps.length < 1099511627776) (hS : ∀ (i : Nat) p l, ps[i]? = some p → PR Tryd.prog D w p l → S l) : softS m hi w E k S s := by
  subst hk
  cases h with
  | sl0 => exact .inl ⟨_, _, rfl⟩
  | @sl _ _ _ b o cap x hn hcap h hx hlo =>
    rcases hlo with rfl | ⟨h1, rfl, c, h2⟩
    · omega
    obtain ⟨g1, g2⟩ := prs_el h
    have hc : ∀ j v, x[j]? = some v → c[j]? = some v := fun j v hj => by
      have := (hx j v hj).1
      rw [Nat.zero_add, cell_of_cells h2] at this
      exact this
    have hsz : ps.length * Tryd.prog.cellsOf E ≤ c.size := by
      refine Nat.le_of_not_lt fun hlt => ?_
      have hj : c.size < x.length := by omega
      have := hc c.size x[c.size] (List.getElem?_eq_getElem hj)
      simp at this
    refine .inr ⟨b, ps.length, cap, c, rfl, hln, h1, Nat.lt_of_lt_of_le (heap_lt h2) hh, h2, hsz, fun i hin => ?_⟩
    have := hS i ps[i] _ (List.getElem?_eq_getElem hin) (g2 i ps[i] (List.getElem?_eq_getElem hin))
    have e : el c (Tryd.prog.cellsOf E) i = (x.drop (i * Tryd.prog.cellsOf E)).take (Tryd.prog.cellsOf E) := by
      have hle : (i + 1) * Tryd.prog.cellsOf E ≤ ps.length * Tryd.prog.cellsOf E := Nat.mul_le_mul_right _ hin
      rw [Nat.succ_mul] at hle
      refine List.ext_getElem? fun j => ?_
      rw [el_get, List.getElem?_take, List.getElem?_drop]
      split
      · have hj : i * Tryd.prog.cellsOf E + j < x.length := by omega
        rw [List.getElem?_eq_getElem hj]
        exact hc _ _ (List.getElem?_eq_getElem hj)
      · rfl
    rw [e]
    exact this
theorem sl_one {E : TypeId} {lo : Nat} {ps : List Pu} {l : List Value} (h : PR Tryd.prog D w (.sl lo E ps) l) : ∃ s, l = [s] := by
  cases h with
  | sl0 => exact ⟨_, rfl⟩
  | sl => exact ⟨_, rfl⟩
theorem compsP : comps Tryd.prog 26 = some [(1, 3), (1, 3), (32, 23), (1, 24)] := by kernel_rfl
theorem compsT : comps Tryd.prog 30 = some [(1, 3), (1, 3), (32, 23), (1, 27), (1, 28)] := by kernel_rfl
theorem compsC : comps Tryd.prog 34 = some [(35, 26), (36, 30)] := by kernel_rfl
theorem softP_of (hm : 0 < m) (hh : w.heap.size ≤ hi) : ∀ (N : Nat) (p : Pat) (l : List Value), psize p ≤ N → N < 1099511627776 → PR Tryd.prog D w (patc m p) l → softP m hi w N l := by
  intro N
  induction N with
  | zero => intro p l h; cases p; simp [psize] at h
  | succ N ih =>
    rintro ⟨k, n, r, ks⟩ l hN hb h
    simp only [psize] at hN
    unfold patc at h
    cases h with
    | agg hc h =>
      rw [compsP] at hc
      simp only [Option.some.injEq] at hc
      subst hc
      cases h with | @cons _ _ _ _ _ x0 _ _ s0 _ h =>
      cases h with | @cons _ _ _ _ _ x1 _ _ s1 _ h =>
      cases h with | @cons _ _ _ _ _ x2 _ _ s2 _ h =>
      cases h with | @cons _ _ _ _ _ x3 _ h3 s3 _ h =>
      cases h
      obtain ⟨s, rfl⟩ := sl_one h3
      refine ⟨x0 ++ x1 ++ x2, s, by simp, by simp [s0, s1, s2], softS_of hm hh (by kernel_rfl) h3 (by rw [pats_length]; have := length_psizeL ks; omega) fun i p l hi hp => ?_⟩
      rw [pats_eq, List.getElem?_map] at hi
      cases hk : ks[i]? with
      | none => simp [hk] at hi
      | some q =>
        simp [hk] at hi
        subst hi
        obtain ⟨hlt, e⟩ := List.getElem?_eq_some_iff.1 hk
        have := psizeL_get hlt
        rw [e] at this
        exact ih q l (by omega) (by omega) hp
theorem softT_of (hm : 0 < m) (hh : w.heap.size ≤ hi) : ∀ (N : Nat) (t : Tm) (l : List Value), tsize t ≤ N → N < 1099511627776 → PR Tryd.prog D w (tmc m t) l → softT m hi w N l := by
  intro N
  induction N with
  | zero => intro p l h; cases p; simp [tsize] at h
  | succ N ih =>
    rintro ⟨k, n, r, ks, cs⟩ l hN hb h
    simp only [tsize] at hN
    unfold tmc at h
    cases h with
    | agg hc h =>
      rw [compsT] at hc
      simp only [Option.some.injEq] at hc
      subst hc
      cases h with | @cons _ _ _ _ _ x0 _ _ s0 _ h =>
      cases h with | @cons _ _ _ _ _ x1 _ _ s1 _ h =>
      cases h with | @cons _ _ _ _ _ x2 _ _ s2 _ h =>
      cases h with | @cons _ _ _ _ _ x3 _ h3 s3 _ h =>
      cases h with | @cons _ _ _ _ _ x4 _ h4 s4 _ h =>
      cases h
      obtain ⟨s, rfl⟩ := sl_one h3
      obtain ⟨s', rfl⟩ := sl_one h4
      refine ⟨x0 ++ x1 ++ x2, s, s', by simp, by simp [s0, s1, s2], softS_of hm hh (by kernel_rfl) h3 (by rw [tms_length]; have := length_tsizeL ks; omega) fun i p l hi hp => ?_, softS_of hm hh (by kernel_rfl) h4 (by rw [css_length]; have := length_csizeL cs; omega) fun i p l hi hp => ?_⟩
      · rw [tms_eq, List.getElem?_map] at hi
        cases hk : ks[i]? with
        | none => simp [hk] at hi
        | some q =>
          simp [hk] at hi
          subst hi
          obtain ⟨hlt, e⟩ := List.getElem?_eq_some_iff.1 hk
          have := tsizeL_get hlt
          rw [e] at this
          exact ih q l (by omega) (by omega) hp
      · rw [css_eq, List.getElem?_map] at hi
        cases hk : cs[i]? with
        | none => simp [hk] at hi
        | some q =>
          simp [hk] at hi
          subst hi
          obtain ⟨hlt, e⟩ := List.getElem?_eq_some_iff.1 hk
          have := csizeL_get hlt
          rw [e] at this
          obtain ⟨p, t⟩ := q
          simp only [csize] at this
          unfold csec at hp
          cases hp with
          | agg hc hp =>
            rw [compsC] at hc
            simp only [Option.some.injEq] at hc
            subst hc
            cases hp with | @cons _ _ _ _ _ lp _ hp s0 _ h =>
            cases h with | @cons _ _ _ _ _ lb _ hq s1 _ h =>
            cases h
            exact ⟨lp, lb, by simp, s0, softP_of hm hh N p lp (by omega) (by omega) hp, ih t lb (by omega) (by omega) hq⟩
end
end Go.Proofs.YtkcgkignhpepkaaDoor

/- SpoilTerm: it writes in what may be spoilt alone. -/
namespace Go.Proofs.YtkcgkignhpepkaaDoor
open Go Hs

def nilSl : Value := .slice none 0 0
def zerP (k : Int) : List Value := [.int .i64 k, .int .i64 0] ++ List.replicate 32 (.int .u8 0) ++ [nilSl]
def zerT (k : Int) : List Value := [.int .i64 k, .int .i64 0] ++ List.replicate 32 (.int .u8 0) ++ [nilSl, nilSl]
def zerC : List Value := zerP 0 ++ zerT 0
theorem build_P (w : World) : (Instr.build 26 #[(0, .int .i64 98)]).run Tryd.prog w = .ok (.agg (zerP 98).toArray) w := by kernel_rfl
theorem build_T (w : World) : (Instr.build 30 #[(0, .int .i64 98)]).run Tryd.prog w = .ok (.agg (zerT 98).toArray) w := by kernel_rfl
theorem build_C (w : World) : (Instr.build 34 #[]).run Tryd.prog w = .ok (.agg zerC.toArray) w := by kernel_rfl
theorem zerP_zero (k : Int) : zeroP (zerP k) := ⟨[.int .i64 k, .int .i64 0] ++ List.replicate 32 (.int .u8 0), none, 0, rfl, by simp⟩
theorem zerT_zero (k : Int) : zeroT (zerT k) := ⟨[.int .i64 k, .int .i64 0] ++ List.replicate 32 (.int .u8 0), none, 0, none, 0, rfl, by simp⟩
theorem zerC_zero : zeroC zerC := ⟨_, _, rfl, zerP_zero 0, zerT_zero 0⟩

theorem el_cell {w : World} {b k i : Nat} {c : Array Value} {E : TypeId} (h : w.heap[b]? = some (.cells c E (0, 0))) : ∀ j v, (el c k i)[j]? = some v → w.cell? ⟨b, i * k + j, none⟩ = some v := fun j v hj => by
  rw [el_get] at hj
  rw [cell_of_cells h]
  split at hj
  · exact hj
  · cases hj
theorem Wore.tmSet {m hi : Nat} {w : World} {b i : Nat} {c : Array Value} {v : List Value} (hb : w.heap[b]? = some (.cells c 30 (0, 0))) (hv : v.length = 36) (hf : (i + 1) * 36 ≤ c.size) (hz : zeroT v) : Wore m hi w (w.setRow b (c.toList.take (i * 36) ++ v ++ c.toList.drop (i * 36 + 36)).toArray) :=
  ⟨Wore1.set hb hv hf hz (fun e => by cases e) (fun e => by cases e), Wore1.set hb hv hf hz (fun _ => rfl) (fun _ _ h => h), Wore1.set hb hv hf hz (fun e => by cases e) (fun e => by cases e)⟩
theorem Wore.csSet {m hi : Nat} {w : World} {b i : Nat} {c : Array Value} {v : List Value} (hb : w.heap[b]? = some (.cells c 34 (0, 0))) (hv : v.length = 71) (hf : (i + 1) * 71 ≤ c.size) (hz : zeroC v) : Wore m hi w (w.setRow b (c.toList.take (i * 71) ++ v ++ c.toList.drop (i * 71 + 71)).toArray) :=
  ⟨Wore1.set hb hv hf hz (fun e => by cases e) (fun e => by cases e), Wore1.set hb hv hf hz (fun e => by cases e) (fun e => by cases e), Wore1.set hb hv hf hz (fun _ => rfl) (fun _ _ h => h)⟩
theorem Wore.ptSet {m hi : Nat} {w : World} {b i : Nat} {c : Array Value} {v : List Value} (hb : w.heap[b]? = some (.cells c 26 (0, 0))) (hv : v.length = 35) (hf : (i + 1) * 35 ≤ c.size) (hz : zeroP v) : Wore m hi w (w.setRow b (c.toList.take (i * 35) ++ v ++ c.toList.drop (i * 35 + 35)).toArray) :=
  ⟨Wore1.set hb hv hf hz (fun _ => rfl) (fun _ _ h => h), Wore1.set hb hv hf hz (fun e => by cases e) (fun e => by cases e), Wore1.set hb hv hf hz (fun e => by cases e) (fun e => by cases e)⟩
theorem soft_tms {m hi n : Nat} {w w' : World} {x : Value} (W : Wore m hi w w') (h : softS m hi w 30 36 (softT m hi w n) x) : softS m hi w' 30 36 (softT m hi w' n) x := softS_mono W.tm (softT_mono W n) (fun _ _ h0 hz => zero_softT h0 hz) h
theorem soft_pts {m hi n : Nat} {w w' : World} {x : Value} (W : Wore m hi w w') (h : softS m hi w 26 35 (softP m hi w n) x) : softS m hi w' 26 35 (softP m hi w' n) x := softS_mono W.pt (softP_mono W n) (fun _ _ h0 hz => zero_softP h0 hz) h
theorem soft_css {m hi n : Nat} {w w' : World} {x : Value} (W : Wore m hi w w') (h : softS m hi w 34 71 (softC m hi w n (softT m hi w n)) x) : softS m hi w' 34 71 (softC m hi w' n (softT m hi w' n)) x :=
  softS_mono W.cs (fun _ ⟨lp, lb, f1, f2, f3, f4⟩ => ⟨lp, lb, f1, f2, softP_mono W n lp f3, softT_mono W n lb f4⟩) (fun _ _ ⟨_, _, _, _, f3, f4⟩ ⟨zp, zb, g1, g2, g3⟩ => ⟨zp, zb, g1, by
        obtain ⟨pre, a, cap, rfl, hp⟩ := g2
        simp [hp], zero_softP f3 g2, zero_softT f4 g3⟩) h

theorem spoil_c : ∀ (n m hi : Nat) (w : World) (l : List Value), softT m hi w n l → hi ≤ w.heap.size → Calls Tryd.prog 15 #[.agg l.toArray] w fun e w' => (∃ v, e = .returned v) ∧ Keep m hi w w' ∧ Wore m hi w w' := by
  intro n
  induction n with
  | zero => intro m hi w l h; exact h.elim
  | succ n ih =>
  rintro m hi w L ⟨pre, s1, s2, hL, hp, hs1, hs2⟩ hh
  obtain ⟨a1, n1, cap1, rfl, hn1, _⟩ := softS_view hs1
  obtain ⟨a2, n2, cap2, rfl, hn2, _⟩ := softS_view hs2
  obtain ⟨B, hB⟩ : ∃ B, B = w.heap.size := ⟨_, rfl⟩
  obtain ⟨w1, hw1⟩ : ∃ w1, w1 = w.alloc (.cells L.toArray 30) := ⟨_, rfl⟩
  have gr : Grew w w1 := by rw [hw1]; exact Grew.alloc w _
  have W1 : Wore m hi w w1 := Wore.grew gr hh
  have hsz1 : B < w1.heap.size := by rw [hw1, hB]; simp
  have hB1 : w1.heap[B]? = some (.cells L.toArray 30 (0, 0)) := by rw [hw1, hB]; exact alloc_heap_new w _
  have cells : ∀ {w2 : World}, Keep m hi w1 w2 → w2.cell? ⟨B, 0 + 34, none⟩ = some (.slice a1 n1 cap1) ∧ w2.cell? ⟨B, 0 + 35, none⟩ = some (.slice a2 n2 cap2) := fun {w2} k => by
    have hb := (k.block B hsz1 (by omega)).trans hB1
    rw [cell_of_cells hb, cell_of_cells hb]
    simp [hL, List.getElem?_append, hp]
  refine calls_of_rtri 64 Tryd.func15 rfl rfl [(0, .agg L.toArray)] (fun i v hv => ?_) ?_
  · rw [get_cons] at hv
    split at hv
    · rename_i e; subst e; simpa using hv
    · cases hv
  repeat refine RTri.seq ?_
  refine RTri.region ?_
  refine q_box rfl (by decide) ?_
  refine RL.nil ?_
  rw [show Value.cells (Value.agg L.toArray) = L.toArray from rfl, ← hw1, ← hB]
  have K0 := Keep.refl m hi w1
  repeat refine RTri.seq ?_
  refine RTri.region ?_
  refine q_field tbl (off := 34) rfl (by kernel_rfl) (by decide) ?_
  refine q_load1 tbl (cells K0).1 rfl (by kernel_rfl) (by decide) ?_
  refine q_len (E := 30) rfl (by kernel_rfl) (by decide) ?_
  refine q_move rfl (by decide) ?_
  refine RL.nil ?_
  repeat refine RTri.seq ?_
  refine RTri.block ?_
  refine RTri.loop (σ := Nat) (fun i env w2 => i ≤ n1 ∧ subE [(8, .int .i64 (i : Nat)), (7, .int .i64 n1), (1, .pointer (some ⟨B, 0, none⟩))] env ∧ Keep m hi w1 w2 ∧ Wore m hi w1 w2) (fun i => n1 - i) 0 ⟨Nat.zero_le _, ⟨rfl, rfl, rfl, trivial⟩, K0, Wore.refl⟩ ?_
  rintro i env w2 ⟨hi1, henv, Ki, Wi⟩
  refine RTri.less ?_ henv.get
  clear henv env
  repeat refine RTri.seq ?_
  refine RTri.region ?_
  refine q_lt tbl rfl rfl (by decide) ?_
  refine RL.nil ?_
  repeat refine RTri.seq ?_
  refine RTri.cond rfl (fun hb => RTri.skip ?_) (fun hb => RTri.exit ?_)
  · have hi' : i < n1 := of_decide_eq_true hb
    obtain ⟨a, n', cap', e, _, hv⟩ := softS_view (soft_tms (W1.trans Wi) hs1)
    simp only [Value.slice.injEq] at e
    obtain ⟨rfl, rfl, rfl⟩ := e
    obtain ⟨b, c, rfl, h1, h2, h3, h4, h5⟩ := hv i hi'
    repeat refine RTri.seq ?_
    refine RTri.block ?_
    repeat refine RTri.seq ?_
    refine RTri.region ?_
    refine q_move rfl (by decide) ?_
    refine q_assign rfl (by decide) ?_
    refine RL.nil ?_
    repeat refine RTri.seq ?_
    refine RTri.region ?_
    refine q_field tbl (off := 34) rfl (by kernel_rfl) (by decide) ?_
    refine q_load1 tbl (cells Ki).1 rfl (by kernel_rfl) (by decide) ?_
    refine q_move rfl (by decide) ?_
    refine q_index tbl (E := 30) (sz := 36) hi' rfl rfl (by kernel_rfl) (by kernel_rfl) (by decide) ?_
    refine q_loadA tbl (el_cell h3) ((el_len h4).trans (by kernel_rfl)) rfl (by kernel_rfl) (by decide) ?_
    refine RL.call rfl rfl rfl (by decide) #[.agg (el c 36 i).toArray] (fun _ ha => x_call (by kernel_rfl) rfl rfl rfl ha) ?_
    refine (ih m hi w2 _ h5 (Nat.le_trans hh (Nat.le_trans gr.size Ki.size))).mono fun e w3 ⟨⟨v, he⟩, K3, W3⟩ => ⟨v, he, ?_⟩
    have Kj := Ki.trans K3
    obtain ⟨c3, g3, g4, _⟩ := W3.tm b c h1 h2 h3
    refine RL.nil ?_
    refine RTri.region ?_
    refine q_field tbl (off := 34) rfl (by kernel_rfl) (by decide) ?_
    refine q_load1 tbl (cells Kj).1 rfl (by kernel_rfl) (by decide) ?_
    refine q_move rfl (by decide) ?_
    refine q_build build_T (by simp [evR]) (by decide) ?_
    refine q_index tbl (E := 30) (sz := 36) hi' rfl rfl (by kernel_rfl) (by kernel_rfl) (by decide) ?_
    refine q_store tbl (sz := 36) g3 (by omega) rfl rfl rfl rfl (by kernel_rfl) ?_
    refine RL.nil ?_
    refine RTri.region ?_
    refine q_add tbl rfl (by omega) (by decide) ?_
    refine q_move rfl (by decide) ?_
    refine RL.nil ?_
    exact ⟨i + 1, by omega, by omega, ⟨rfl, rfl, rfl, trivial⟩, Kj.trans (Keep.setRow g3 h1 h2), (Wi.trans W3).trans (Wore.tmSet g3 rfl (by omega) (zerT_zero 98))⟩
  have WI := W1.trans Wi
  clear hb hi1
  repeat refine RTri.seq ?_
  refine RTri.region ?_
  refine q_field tbl (off := 35) rfl (by kernel_rfl) (by decide) ?_
  refine q_load1 tbl (cells Ki).2 rfl (by kernel_rfl) (by decide) ?_
  refine q_len (E := 34) rfl (by kernel_rfl) (by decide) ?_
  refine q_move rfl (by decide) ?_
  refine RL.nil ?_
  repeat refine RTri.seq ?_
  refine RTri.block ?_
  refine RTri.loop (σ := Nat) (fun i env w2 => i ≤ n2 ∧ subE [(26, .int .i64 (i : Nat)), (25, .int .i64 n2), (1, .pointer (some ⟨B, 0, none⟩))] env ∧ Keep m hi w1 w2 ∧ Wore m hi w w2) (fun i => n2 - i) 0 ⟨Nat.zero_le _, ⟨rfl, rfl, rfl, trivial⟩, Ki, WI⟩ ?_
  clear Ki Wi WI w2 i
  rintro i env w2 ⟨hi1, henv, Ki, Wi⟩
  refine RTri.less ?_ henv.get
  clear henv env
  repeat refine RTri.seq ?_
  refine RTri.region ?_
  refine q_lt tbl rfl rfl (by decide) ?_
  refine RL.nil ?_
  repeat refine RTri.seq ?_
  refine RTri.cond rfl (fun hb => RTri.skip ?_) (fun hb => RTri.exit ?_)
  · have hi' : i < n2 := of_decide_eq_true hb
    obtain ⟨a, n', cap', e, _, hv⟩ := softS_view (soft_css Wi hs2)
    simp only [Value.slice.injEq] at e
    obtain ⟨rfl, rfl, rfl⟩ := e
    obtain ⟨b, c, rfl, h1, h2, h3, h4, lp, lb, h5, h6, _, h7⟩ := hv i hi'
    have hbody : ∀ j v, lb[j]? = some v → w2.cell? ⟨b, i * 71 + 35 + j, none⟩ = some v := fun j v hj => by
      have := el_cell h3 (35 + j) v (by rw [h5, List.getElem?_append_right (by omega), h6]; simpa using hj)
      simpa [Nat.add_assoc] using this
    have hlb : lb.length = 36 := by
      have := el_len h4
      rw [h5, List.length_append] at this
      omega
    repeat refine RTri.seq ?_
    refine RTri.block ?_
    repeat refine RTri.seq ?_
    refine RTri.region ?_
    refine q_move rfl (by decide) ?_
    refine q_assign rfl (by decide) ?_
    refine RL.nil ?_
    repeat refine RTri.seq ?_
    refine RTri.region ?_
    refine q_field tbl (off := 35) rfl (by kernel_rfl) (by decide) ?_
    refine q_load1 tbl (cells Ki).2 rfl (by kernel_rfl) (by decide) ?_
    refine q_move rfl (by decide) ?_
    refine q_index tbl (E := 34) (sz := 71) hi' rfl rfl (by kernel_rfl) (by kernel_rfl) (by decide) ?_
    refine q_field tbl (off := 35) rfl (by kernel_rfl) (by decide) ?_
    refine q_loadA tbl hbody (hlb.trans (by kernel_rfl)) rfl (by kernel_rfl) (by decide) ?_
    refine RL.call rfl rfl rfl (by decide) #[.agg lb.toArray] (fun _ ha => x_call (by kernel_rfl) rfl rfl rfl ha) ?_
    refine (ih m hi w2 _ h7 (Nat.le_trans hh (Nat.le_trans gr.size Ki.size))).mono fun e w3 ⟨⟨v, he⟩, K3, W3⟩ => ⟨v, he, ?_⟩
    have Kj := Ki.trans K3
    have Wj := Wi.trans W3
    clear h3 h4 h5 h6 h7 hbody hlb hv
    obtain ⟨_, _, _, e, _, hv⟩ := softS_view (soft_css Wj hs2)
    simp only [Value.slice.injEq] at e
    obtain ⟨rfl, rfl, rfl⟩ := e
    obtain ⟨b', c, e, h1, h2, h3, h4, lp, lb, h5, h6, h7, _⟩ := hv i hi'
    simp only [Option.some.injEq, Addr.mk.injEq, and_true] at e
    subst e
    cases n with
    | zero => exact h7.elim
    | succ n' =>
    obtain ⟨pre', s, rfl, hp', hs3⟩ := h7
    obtain ⟨a3, n3, cap3, rfl, hn3, _⟩ := softS_view hs3
    have hkid : ∀ {w5 : World}, w5.heap[b]? = some (.cells c 34 (0, 0)) → w5.cell? ⟨b, i * 71 + 0 + 34, none⟩ = some (.slice a3 n3 cap3) := fun {w5} h => by
      have := el_cell h (k := 71) (i := i) 34 (.slice a3 n3 cap3) (by rw [h5, List.getElem?_append_left (by omega), List.getElem?_append_right (by omega), hp']; rfl)
      simpa [Nat.add_assoc] using this
    refine RL.nil ?_
    repeat refine RTri.seq ?_
    refine RTri.region ?_
    refine q_field tbl (off := 35) rfl (by kernel_rfl) (by decide) ?_
    refine q_load1 tbl (cells Kj).2 rfl (by kernel_rfl) (by decide) ?_
    refine q_move rfl (by decide) ?_
    refine q_index tbl (E := 34) (sz := 71) hi' rfl rfl (by kernel_rfl) (by kernel_rfl) (by decide) ?_
    refine q_field tbl (off := 0) rfl (by kernel_rfl) (by decide) ?_
    refine q_field tbl (off := 34) rfl (by kernel_rfl) (by decide) ?_
    refine q_load1 tbl (hkid h3) rfl (by kernel_rfl) (by decide) ?_
    refine q_len (E := 26) rfl (by kernel_rfl) (by decide) ?_
    refine q_move rfl (by decide) ?_
    refine RL.nil ?_
    repeat refine RTri.seq ?_
    refine RTri.block ?_
    refine RTri.loop (σ := Nat) (fun k env w5 => k ≤ n3 ∧ subE [(44, .int .i64 (k : Nat)), (43, .int .i64 n3), (26, .int .i64 (i : Nat)), (25, .int .i64 n2), (3, .int .i64 (i : Nat)), (1, .pointer (some ⟨B, 0, none⟩))] env ∧ Keep m hi w1 w5 ∧ Wore m hi w3 w5 ∧ w5.heap[b]? = some (.cells c 34 (0, 0))) (fun k => n3 - k) 0 ⟨Nat.zero_le _, ⟨rfl, rfl, rfl, rfl, rfl, rfl, trivial⟩, Kj, Wore.refl, h3⟩ ?_
    rintro k env w5 ⟨hk1, henv, K5, W5, hb5⟩
    refine RTri.less ?_ henv.get
    clear henv env
    repeat refine RTri.seq ?_
    refine RTri.region ?_
    refine q_lt tbl rfl rfl (by decide) ?_
    refine RL.nil ?_
    repeat refine RTri.seq ?_
    refine RTri.cond rfl (fun hb => RTri.skip ?_) (fun hb => RTri.exit ?_)
    · have hk' : k < n3 := of_decide_eq_true hb
      obtain ⟨_, _, _, e, _, hv⟩ := softS_view (soft_pts W5 hs3)
      simp only [Value.slice.injEq] at e
      obtain ⟨rfl, rfl, rfl⟩ := e
      obtain ⟨b6, c6, rfl, f1, f2, f3, f4, _⟩ := hv k hk'
      have hne : b ≠ b6 := fun e => by
        subst e
        rw [hb5] at f3
        cases f3
      repeat refine RTri.seq ?_
      refine RTri.block ?_
      repeat refine RTri.seq ?_
      refine RTri.region ?_
      refine q_move rfl (by decide) ?_
      refine q_assign rfl (by decide) ?_
      refine RL.nil ?_
      repeat refine RTri.seq ?_
      refine RTri.region ?_
      refine q_field tbl (off := 35) rfl (by kernel_rfl) (by decide) ?_
      refine q_load1 tbl (cells K5).2 rfl (by kernel_rfl) (by decide) ?_
      refine q_move rfl (by decide) ?_
      refine q_index tbl (E := 34) (sz := 71) hi' rfl rfl (by kernel_rfl) (by kernel_rfl) (by decide) ?_
      refine q_field tbl (off := 0) rfl (by kernel_rfl) (by decide) ?_
      refine q_field tbl (off := 34) rfl (by kernel_rfl) (by decide) ?_
      refine q_load1 tbl (hkid hb5) rfl (by kernel_rfl) (by decide) ?_
      refine q_move rfl (by decide) ?_
      refine q_build build_P (by simp [evR]) (by decide) ?_
      refine q_index tbl (E := 26) (sz := 35) hk' rfl rfl (by kernel_rfl) (by kernel_rfl) (by decide) ?_
      refine q_store tbl (sz := 35) f3 f4 rfl rfl rfl rfl (by kernel_rfl) ?_
      refine RL.nil ?_
      refine RTri.region ?_
      refine q_add tbl rfl (by omega) (by decide) ?_
      refine q_move rfl (by decide) ?_
      refine RL.nil ?_
      exact ⟨k + 1, by omega, by omega, ⟨rfl, rfl, rfl, rfl, rfl, rfl, trivial⟩, K5.trans (Keep.setRow f3 f1 f2), W5.trans (Wore.ptSet f3 rfl f4 (zerP_zero 98)), (setRow_ne w5 b6 _ hne).trans hb5⟩
    · refine RTri.region ?_
      refine q_field tbl (off := 35) rfl (by kernel_rfl) (by decide) ?_
      refine q_load1 tbl (cells K5).2 rfl (by kernel_rfl) (by decide) ?_
      refine q_move rfl (by decide) ?_
      refine q_build build_C (by simp) (by decide) ?_
      refine q_index tbl (E := 34) (sz := 71) hi' rfl rfl (by kernel_rfl) (by kernel_rfl) (by decide) ?_
      refine q_store tbl (sz := 71) hb5 h4 rfl rfl rfl rfl (by kernel_rfl) ?_
      refine RL.nil ?_
      refine RTri.region ?_
      refine q_add tbl rfl (by omega) (by decide) ?_
      refine q_move rfl (by decide) ?_
      refine RL.nil ?_
      exact ⟨i + 1, by omega, by omega, ⟨rfl, rfl, rfl, trivial⟩, K5.trans (Keep.setRow hb5 h1 h2), (Wj.trans W5).trans (Wore.csSet hb5 rfl h4 zerC_zero)⟩
  · have hr : Tryd.f15.results = #[] := rfl
    exact ⟨.inl rfl, fun a ha => ⟨.tuple #[], by simp [results, hr], ⟨_, rfl⟩, (Keep.of_grew gr).trans Ki, Wi⟩⟩
end Go.Proofs.YtkcgkignhpepkaaDoor

/- StepFits: the walk. -/
namespace Go.Proofs.YtkcgkignhpepkaaDoor
open Go Hs

theorem fitsize (p : Pat) (t : Tm) (h : greatM (.mk 9 0 Z32 [t] [.mk p (.mk 2 0 Z32 [] [])]) = false) : psize p + tsize t ≤ 400 := by
  have := great_size h
  simp [tsize, tsizeL, csize, csizeL] at this
  omega

theorem bin_neqB (x y : Bool) : binV Tryd.prog .neq 4 (bv x) (bv y) = some (bv (x != y)) := by
  have hb : Tryd.prog.underlying 4 = some .bool := by kernel_rfl
  simp [binV, hb]
theorem stepFits_c (p : Pat) (t : Tm) (hp : psize p < 2^30) (hN : tsize t < 2^30) :
    FCall Tryd.prog gA 3 [.pu (patc 0 p), .pu (tmc 0 t)] (bv true) := by
  refine FCall.of_tri tbl 67 Tryd.func3 rfl rfl rfl fun w0 M ρ0 D0 => ?_
  refine yR ?_
  refine s_box SS 2 ?_
  refine s_box SS 3 ?_
  refine yB ?_
  refine e_seqN [2, 3] ?_
  refine yR ?_
  refine yL ?_
  refine yL ?_
  refine s_val (v_callD (fun _ => Nu_c 0)) ?_
  refine s_val (v_callD (fun _ => Ca_c p (.mk 2 0 Z32 [] []))) ?_
  refine yZ ?_
  refine s_val (v_callD (fun _ => Ma_c t [.mk p (.mk 2 0 Z32 [] [])])) ?_
  refine s_val (v_callD (fun _ => great_c (.mk 9 0 Z32 [t] [.mk p (.mk 2 0 Z32 [] [])]) (by simp [tsize, tsizeL, csize, csizeL]; omega))) ?_
  refine e_draw ?_
  repeat refine Tri.seq ?_
  refine Tri.cond rfl (fun h0 => ?_) (fun h0 => ?_)
  · skip
    refine yR ?_
    refine s_val (v_callD (fun _ => awake_c)) ?_
    refine yA ?_
    refine e_seq ?_
    repeat refine Tri.seq ?_
    exact Tri.ret ⟨.inr rfl, ret1 rfl resV_tmp (VImp.refl _)⟩
  · skip
    have hsz := fitsize p t h0
    refine Tri.skip ?_
    refine yR ?_
    refine yL ?_
    refine s_val (v_callD (fun _ => kitOwnPattern_c _ p (Nat.le_refl _) (by omega))) ?_
    refine yL ?_
    refine s_val (v_callD (fun _ => kitOwnTerm_c _ t (Nat.le_refl _) (by omega))) ?_
    refine s_alloc SS 5 ?_
    refine s_alloc SS 6 ?_
    refine yS ?_
    refine yS ?_
    refine e_drawN [5, 6] ?_
    refine yR ?_
    refine yL ?_
    refine yL ?_
    refine s_val (v_callD (fun _ => rfits_c _ p (Nat.le_refl _) t (by omega))) ?_
    refine yM ?_
    refine yX ?_
    refine yX ?_
    refine yA ?_
    refine yA ?_
    refine e_seq ?_
    have hln := fits_b p t
    have hfz := fits_sz p t
    refine Tri.less (t := ⟨[(2, .ptr 2 [] 26), (3, .ptr 3 [] 30), (5, .ptr 5 [] 26), (6, .ptr 6 [] 30), (7, .pu (.sl 0 30 (tmsc 0 (fitsM p t).1))), (8, bv (fitsM p t).2)],
      [(2, .var 26 (.pu (patc 0 p))), (3, .var 30 (.pu (tmc 0 t))), (5, .var 26 (.pu (patc 0 p))), (6, .var 30 (.pu (tmc 0 t)))]⟩) (le_of zE zH) ?_
    refine Tri.two [2, 3, 5, 6] rfl rfl (by simp) fun w1 M1 ρ1 D1 K2 hpos hseq hspoil => ?_
    generalize hfm : fitsM p t = W at *
    obtain ⟨W1, W2⟩ := W
    refine hseq _ _ _ ?_
    refine yR ?_
    refine yL ?_
    refine yL ?_
    refine s_val (v_callN (fun m n h => fitV_low h _) (fun _ => by have := fits_c (G := gA) _ p (Nat.le_refl _) t (by omega); rw [hfm] at this; exact this)) ?_
    refine yM ?_
    refine yX ?_
    refine yX ?_
    refine yA ?_
    refine yA ?_
    refine e_seq ?_
    refine ⟨rfl, ?_⟩
    refine hseq _ _ _ ?_
    refine yR ?_
    refine yM ?_
    refine yM ?_
    refine s_val (v_bin SS (h := bin_neqB _ _)) ?_
    refine yM ?_
    refine xM ?_
    refine xM ?_
    refine s_gg zG (v_callD (fun _ => sameTs_c W1 W1 (by simp at hln; omega) (by simp at hln; omega) (fun i h1 h2 => sameT_c _ _ _ (Nat.le_refl _) (by have := hfz _ (List.getElem_mem h1); omega) (by have := hfz _ (List.getElem_mem h1); omega)))) ?_
    refine xQ ?_
    refine yO ?_
    refine e_seq ?_
    refine Tri.cond rfl (fun h1 => ?_) (fun h1 => Tri.skip ?_)
    · simp [sameTs_refl] at h1
    refine ⟨rfl, ?_⟩
    refine hspoil _ _ _ [(2, .ptr 2 [] 26), (3, .ptr 3 [] 30), (5, .ptr 5 [] 26), (6, .ptr 6 [] 30)] rfl ?_ (fun C a w hs => ?_) ?_
    · exact (le_of (e' := [(2, .ptr 2 [] 26), (3, .ptr 3 [] 30), (5, .ptr 5 [] 26), (6, .ptr 6 [] 30)]) (h' := []) zE zH).env
    · obtain ⟨x9, h9, hv9⟩ := hs.env 9 _ rfl
      obtain ⟨x2, h2, _⟩ := hs.env 2 _ rfl
      obtain ⟨x3, h3, _⟩ := hs.env 3 _ rfl
      obtain ⟨x5, h5, _⟩ := hs.env 5 _ rfl
      obtain ⟨x6, h6, _⟩ := hs.env 6 _ rfl
      have hm : w1.heap.size ≤ w.heap.size := hs.framed.size
      have hsoft : softS w1.heap.size w.heap.size w 30 36 (softT w1.heap.size w.heap.size w (tsize t)) x9 := softS_of hpos (Nat.le_refl _) (by kernel_rfl) (sl_slot hv9) (by rw [tms_length]; simp at hln ⊢; omega) fun i q l hi hq => by
        rw [tms_eq, List.getElem?_map] at hi
        cases hk : W1[i]? with
        | none => simp [hk] at hi
        | some u =>
          simp [hk] at hi
          subst hi
          exact softT_of hpos (Nat.le_refl _) (tsize t) u l (hfz u (List.mem_of_getElem? hk)) (by omega) hq
      obtain ⟨a1, n1, cap1, rfl, hn1, _⟩ := softS_view hsoft
      refine RTri.use (n := 67) (fun e env' w' => e = .normal ∧ subE [(2, x2), (3, x3), (5, x5), (6, x6)] env' ∧ Keep w1.heap.size w.heap.size w w') ?_ (Kn.of (l := [(9, .slice a1 n1 cap1), (2, x2), (3, x3), (5, x5), (6, x6)]) hs.size (fun x hx => ?_)) ?_
      · repeat refine RTri.seq ?_
        refine RTri.region ?_
        refine q_move rfl (by decide) ?_
        refine q_len (E := 30) rfl (by kernel_rfl) (by decide) ?_
        refine q_move rfl (by decide) ?_
        refine RL.nil ?_
        repeat refine RTri.seq ?_
        refine RTri.block ?_
        refine RTri.loop (σ := Nat) (fun i env w2 => i ≤ n1 ∧ subE [(47, .int .i64 (i : Nat)), (46, .int .i64 n1), (9, .slice a1 n1 cap1), (2, x2), (3, x3), (5, x5), (6, x6)] env ∧ Keep w1.heap.size w.heap.size w w2 ∧ Wore w1.heap.size w.heap.size w w2) (fun i => n1 - i) 0 ⟨Nat.zero_le _, ⟨rfl, rfl, rfl, rfl, rfl, rfl, rfl, trivial⟩, Keep.refl _ _ _, Wore.refl⟩ ?_
        rintro i env w2 ⟨hi1, henv, Ki, Wi⟩
        refine RTri.less ?_ henv.get
        clear henv env
        repeat refine RTri.seq ?_
        refine RTri.region ?_
        refine q_lt tbl rfl rfl (by decide) ?_
        refine RL.nil ?_
        repeat refine RTri.seq ?_
        refine RTri.cond rfl (fun hb => RTri.skip ?_) (fun hb => RTri.exit ?_)
        · have hi' : i < n1 := of_decide_eq_true hb
          obtain ⟨_, _, _, e, _, hv⟩ := softS_view (soft_tms Wi hsoft)
          simp only [Value.slice.injEq] at e
          obtain ⟨rfl, rfl, rfl⟩ := e
          obtain ⟨b, c, rfl, g1, g2, g3, g4, g5⟩ := hv i hi'
          repeat refine RTri.seq ?_
          refine RTri.block ?_
          repeat refine RTri.seq ?_
          refine RTri.region ?_
          refine q_move rfl (by decide) ?_
          refine q_assign rfl (by decide) ?_
          refine RL.nil ?_
          repeat refine RTri.seq ?_
          refine RTri.region ?_
          refine q_move rfl (by decide) ?_
          refine q_move rfl (by decide) ?_
          refine q_index tbl (E := 30) (sz := 36) hi' rfl rfl (by kernel_rfl) (by kernel_rfl) (by decide) ?_
          refine q_loadA tbl (el_cell g3) ((el_len g4).trans (by kernel_rfl)) rfl (by kernel_rfl) (by decide) ?_
          refine RL.call rfl rfl rfl (by decide) #[.agg (el c 36 i).toArray] (fun _ ha => x_call (by kernel_rfl) rfl rfl rfl ha) ?_
          refine (spoil_c _ w1.heap.size w.heap.size w2 _ g5 Ki.size).mono fun e w3 ⟨⟨v, he⟩, K3, W3⟩ => ⟨v, he, ?_⟩
          refine RL.nil ?_
          repeat refine RTri.seq ?_
          refine RTri.region ?_
          refine q_add tbl rfl (by omega) (by decide) ?_
          refine q_move rfl (by decide) ?_
          refine RL.nil ?_
          exact ⟨i + 1, by omega, by omega, ⟨rfl, rfl, rfl, rfl, rfl, rfl, rfl, trivial⟩, Ki.trans K3, Wi.trans W3⟩
        · exact ⟨rfl, ⟨rfl, rfl, rfl, rfl, trivial⟩, Ki⟩
      · simp only [List.mem_cons, List.not_mem_nil, or_false] at hx
        rcases hx with rfl | rfl | rfl | rfl | rfl <;> assumption
      · rintro e a' w' env' hk ⟨he, hsub, hkeep⟩
        refine ⟨he, ⟨_, hkeep⟩, hk.size, fun i v hv => ?_, hk.defers⟩
        have hmem := get_mem hv
        simp only [List.mem_cons, List.not_mem_nil, or_false, Prod.mk.injEq] at hmem
        obtain ⟨s2, s3, s5, s6, _⟩ := hsub
        rcases hmem with ⟨rfl, _⟩ | ⟨rfl, _⟩ | ⟨rfl, _⟩ | ⟨rfl, _⟩
        · exact (hk.env _ _ s2).trans h2.symm
        · exact (hk.env _ _ s3).trans h3.symm
        · exact (hk.env _ _ s5).trans h5.symm
        · exact (hk.env _ _ s6).trans h6.symm
    · refine yR ?_
      refine yL ?_
      refine yL ?_
      refine s_val (v_callD (fun _ => sameT_c _ t t (Nat.le_refl _) (by omega) (by omega))) ?_
      refine yM ?_
      refine xL ?_
      refine xL ?_
      refine s_gg zG (v_callD (fun _ => sameP_c _ p p (Nat.le_refl _) (by omega) (by omega))) ?_
      refine yN ?_
      refine yM ?_
      refine s_gg zG (v_callD (fun _ => awake_c)) ?_
      refine yN ?_
      refine yA ?_
      refine e_seq ?_
      repeat refine Tri.seq ?_
      exact Tri.ret ⟨.inr rfl, ret1 rfl resV_tmp (bv_imp (by simp [sameT_refl, sameP_refl]))⟩
end Go.Proofs.YtkcgkignhpepkaaDoor

/- Terms, patterns and worlds out of what arguments read as. -/
namespace Go.Proofs.YtkcgkignhpepkaaDoor
open Go Hs
variable {H : Type}

theorem bulk_one (d : DataW H) : 1 ≤ Rows.uptoBulk d := by
  cases d with
  | lit l => cases l <;> simp [Rows.uptoBulk]
  | _ => simp [Rows.uptoBulk]
theorem bulk_mem {d : DataW H} {l : List (DataW H)} (h : d ∈ l) : Rows.uptoBulk d ≤ Rows.uptoBulkAll l := by
  induction l with
  | nil => cases h
  | cons x r ih =>
    simp only [Rows.uptoBulkAll]
    cases List.mem_cons.1 h with
    | inl e => subst e; omega
    | inr e => have := ih e; omega
theorem bulk_sum {α : Type} (sz : α → Nat) (tot : List α → Nat) (h0 : tot [] = 0) (h1 : ∀ a l, tot (a :: l) = sz a + tot l) : ∀ {ds : List (DataW H)} {l : List α}, l.length = ds.length → (∀ (i : Nat) (d : DataW H) (a : α), ds[i]? = some d → l[i]? = some a → sz a ≤ Rows.uptoBulk d) → tot l ≤ Rows.uptoBulkAll ds
  | [], l, hl, _ => by
    have : l = [] := List.length_eq_zero_iff.1 hl
    subst this; rw [h0]; omega
  | d :: ds, [], hl, _ => by simp at hl
  | d :: ds, a :: l, hl, h => by
    have h2 := h 0 d a rfl rfl
    have h3 := bulk_sum sz tot h0 h1 (ds := ds) (l := l) (by simpa using hl) fun i d' a' hi hj => h (i + 1) d' a' (by simpa using hi) (by simpa using hj)
    rw [h1]
    simp only [Rows.uptoBulkAll]
    omega
theorem c_int : Tryd.prog.underlying 3 = some (.int .i64) := by kernel_rfl
theorem c_u8 : Tryd.prog.underlying 5 = some (.int .u8) := by kernel_rfl
theorem c_sum : comps Tryd.prog 23 = some (List.replicate 32 (1, 5)) := by kernel_rfl
theorem c_pat : comps Tryd.prog 26 = some [(1, 3), (1, 3), (32, 23), (1, 24)] := by kernel_rfl
theorem c_tm : comps Tryd.prog 30 = some [(1, 3), (1, 3), (32, 23), (1, 27), (1, 28)] := by kernel_rfl
theorem c_cs : comps Tryd.prog 34 = some [(Tryd.prog.cellsOf 26, 26), (Tryd.prog.cellsOf 30, 30)] := by kernel_rfl
theorem u_pats : Tryd.prog.underlying 24 = some (.slice 26) := by kernel_rfl
theorem u_tms : Tryd.prog.underlying 27 = some (.slice 30) := by kernel_rfl
theorem u_css : Tryd.prog.underlying 28 = some (.slice 34) := by kernel_rfl

theorem ht_sum {d : DataW H} {p : Pu} (h : HT Tryd.prog 23 d p) : ∃ r, p = refP r := by
  obtain ⟨ds, ps, rfl, rfl, hA⟩ := h.agg_inv c_sum
  clear h
  have h := hA
  clear hA
  rw [List.map_replicate] at h
  obtain ⟨l, rfl, _, _⟩ := HTs.all (α := Int) (enc := fun n => .leaf (.int .u8 n)) (φ := fun _ _ => True) h fun d _ p hp => by
    obtain ⟨n, _, rfl, _⟩ := hp.int_inv c_u8
    exact ⟨n, rfl, trivial⟩
  exact ⟨l, rfl⟩
theorem sl_bulk {ds sp : List (DataW H)} {d : DataW H} (h : d = .nil ∧ ds = [] ∨ d = .slice ds sp) : Rows.uptoBulkAll ds + 1 ≤ Rows.uptoBulk d := by
  rcases h with ⟨rfl, rfl⟩ | rfl
  · simp [Rows.uptoBulk, Rows.uptoBulkAll]
  · simp only [Rows.uptoBulk]; omega

theorem ht_pat : ∀ (N : Nat) (d : DataW H), Rows.uptoBulk d ≤ N → ∀ p, HT Tryd.prog 26 d p → ∃ q, p = patc 0 q ∧ psize q ≤ Rows.uptoBulk d
  | 0, d, hN, _, _ => by have := bulk_one d; omega
  | N + 1, d, hN, p, h => by
    obtain ⟨ds, ps, rfl, rfl, hA⟩ := h.agg_inv c_pat
    clear h
    have h := hA
    clear hA
    obtain ⟨d1, ds, p1, ps, rfl, rfl, h1, h⟩ := h.cons_inv
    obtain ⟨d2, ds, p2, ps, rfl, rfl, h2, h⟩ := h.cons_inv
    obtain ⟨d3, ds, p3, ps, rfl, rfl, h3, h⟩ := h.cons_inv
    obtain ⟨d4, ds, p4, ps, rfl, rfl, h4, h⟩ := h.cons_inv
    obtain ⟨rfl, rfl⟩ := h.nil_inv
    obtain ⟨k, rfl, rfl, _⟩ := h1.int_inv c_int
    obtain ⟨n, rfl, rfl, _⟩ := h2.int_inv c_int
    obtain ⟨r, rfl⟩ := ht_sum h3
    obtain ⟨es, sp, qs, he, rfl, hq⟩ := h4.sl_inv u_pats
    have hb := sl_bulk he
    simp only [Rows.uptoBulk, Rows.uptoBulkAll] at hN ⊢
    obtain ⟨l, rfl, hl, hφ⟩ := HTs.all (enc := patc 0) (φ := fun d q => psize q ≤ Rows.uptoBulk d) hq fun d hm p hp => ht_pat N d (by have := bulk_mem hm; omega) p hp
    have hs := bulk_sum psize psizeL rfl (fun _ _ => rfl) hl hφ
    exact ⟨.mk k n r l, by simp only [patc, pats_eq], by simp only [psize]; omega⟩

theorem rgK_of {l : List Tm} (h : ∀ t ∈ l, rgT t) : rgK l := by
  induction l with
  | nil => trivial
  | cons a l ih => exact ⟨h a (by simp), ih fun t ht => h t (by simp [ht])⟩
theorem rgC_of {l : List Cs} (h : ∀ t ∈ l, rgS t) : rgC l := by
  induction l with
  | nil => trivial
  | cons a l ih => exact ⟨h a (by simp), ih fun t ht => h t (by simp [ht])⟩
theorem mem_pair {α : Type} {ds : List (DataW H)} {l : List α} (hl : l.length = ds.length) {a : α} (h : a ∈ l) : ∃ (i : Nat) (d : DataW H), ds[i]? = some d ∧ l[i]? = some a := by
  obtain ⟨i, hi, rfl⟩ := List.getElem_of_mem h
  exact ⟨i, ds[i]'(by omega), List.getElem?_eq_getElem _, List.getElem?_eq_getElem _⟩
mutual
theorem ht_tm : ∀ (N : Nat) (d : DataW H), Rows.uptoBulk d ≤ N → ∀ p, HT Tryd.prog 30 d p → ∃ t, p = tmc 0 t ∧ tsize t ≤ Rows.uptoBulk d ∧ rgT t
  | 0, d, hN, _, _ => by have := bulk_one d; omega
  | N + 1, d, hN, p, h => by
    obtain ⟨ds, ps, rfl, rfl, hA⟩ := h.agg_inv c_tm
    clear h
    have h := hA
    clear hA
    obtain ⟨d1, ds, p1, ps, rfl, rfl, h1, h⟩ := h.cons_inv
    obtain ⟨d2, ds, p2, ps, rfl, rfl, h2, h⟩ := h.cons_inv
    obtain ⟨d3, ds, p3, ps, rfl, rfl, h3, h⟩ := h.cons_inv
    obtain ⟨d4, ds, p4, ps, rfl, rfl, h4, h⟩ := h.cons_inv
    obtain ⟨d5, ds, p5, ps, rfl, rfl, h5, h⟩ := h.cons_inv
    obtain ⟨rfl, rfl⟩ := h.nil_inv
    obtain ⟨k, rfl, rfl, _⟩ := h1.int_inv c_int
    obtain ⟨n, rfl, rfl, hn⟩ := h2.int_inv c_int
    obtain ⟨r, rfl⟩ := ht_sum h3
    obtain ⟨es, sp, qs, he, rfl, hq⟩ := h4.sl_inv u_tms
    obtain ⟨fs, sp', us, hf, rfl, hu⟩ := h5.sl_inv u_css
    have hb := sl_bulk he
    have hb' := sl_bulk hf
    simp only [Rows.uptoBulk, Rows.uptoBulkAll] at hN ⊢
    obtain ⟨l, rfl, hl, hφ⟩ := HTs.all (enc := tmc 0) (φ := fun d q => tsize q ≤ Rows.uptoBulk d ∧ rgT q) hq fun d hm p hp => ht_tm N d (by have := bulk_mem hm; omega) p hp
    obtain ⟨m, rfl, hm, hψ⟩ := HTs.all (enc := csec 0) (φ := fun d q => csize q ≤ Rows.uptoBulk d ∧ rgS q) hu fun d hm p hp => ht_cs N d (by have := bulk_mem hm; omega) p hp
    have hs := bulk_sum tsize tsizeL rfl (fun _ _ => rfl) hl fun i d a hi hj => (hφ i d a hi hj).1
    have hs' := bulk_sum csize csizeL rfl (fun _ _ => rfl) hm fun i d a hi hj => (hψ i d a hi hj).1
    refine ⟨.mk k n r l m, by simp only [tmc, tms_eq, css_eq], by simp only [tsize]; omega, ?_, rgK_of fun t ht => ?_, rgC_of fun t ht => ?_⟩
    · have hn' : -9223372036854775808 ≤ n ∧ n ≤ 9223372036854775807 := by simpa [Lit.wf, IntKind.min, IntKind.max, IntKind.signed, IntKind.bits] using hn
      omega
    · obtain ⟨i, d, g1, g2⟩ := mem_pair hl ht
      exact (hφ i d t g1 g2).2
    · obtain ⟨i, d, g1, g2⟩ := mem_pair hm ht
      exact (hψ i d t g1 g2).2
theorem ht_cs : ∀ (N : Nat) (d : DataW H), Rows.uptoBulk d ≤ N → ∀ p, HT Tryd.prog 34 d p → ∃ t, p = csec 0 t ∧ csize t ≤ Rows.uptoBulk d ∧ rgS t
  | 0, d, hN, _, _ => by have := bulk_one d; omega
  | N + 1, d, hN, p, h => by
    have hc := c_cs
    obtain ⟨ds, ps, rfl, rfl, hA⟩ := h.agg_inv hc
    clear h
    have h := hA
    clear hA
    obtain ⟨d1, ds, p1, ps, rfl, rfl, h1, h⟩ := h.cons_inv
    obtain ⟨d2, ds, p2, ps, rfl, rfl, h2, h⟩ := h.cons_inv
    obtain ⟨rfl, rfl⟩ := h.nil_inv
    simp only [Rows.uptoBulk, Rows.uptoBulkAll] at hN ⊢
    obtain ⟨q, rfl, hq⟩ := ht_pat _ d1 (Nat.le_refl _) p1 h1
    obtain ⟨t, rfl, ht, hr⟩ := ht_tm N d2 (by omega) p2 h2
    exact ⟨.mk q t, rfl, by simp only [csize]; omega, hr⟩
end
theorem c_kt : comps Tryd.prog 71 = some [(Tryd.prog.cellsOf 23, 23), (Tryd.prog.cellsOf 30, 30)] := by kernel_rfl
theorem c_wd : comps Tryd.prog 52 = some [(1, 48), (1, 49), (1, 50)] := by kernel_rfl
theorem u_kts : Tryd.prog.underlying 50 = some (.slice 71) := by kernel_rfl
theorem ht_kt {d : DataW H} {p : Pu} (h : HT Tryd.prog 71 d p) : ∃ x : KT, p = ktP x ∧ tsize x.2 ≤ Rows.uptoBulk d ∧ rgT x.2 := by
  have hc := c_kt
  obtain ⟨ds, ps, rfl, rfl, hA⟩ := h.agg_inv hc
  clear h
  have h := hA
  clear hA
  obtain ⟨d1, ds, p1, ps, rfl, rfl, h1, h⟩ := h.cons_inv
  obtain ⟨d2, ds, p2, ps, rfl, rfl, h2, h⟩ := h.cons_inv
  obtain ⟨rfl, rfl⟩ := h.nil_inv
  obtain ⟨r, rfl⟩ := ht_sum h1
  obtain ⟨t, rfl, ht, hr⟩ := ht_tm _ d2 (Nat.le_refl _) p2 h2
  exact ⟨(r, t), rfl, by simp only [Rows.uptoBulk, Rows.uptoBulkAll]; omega, hr⟩
theorem bulk_len (l : List (DataW H)) : l.length ≤ Rows.uptoBulkAll l := by
  induction l with
  | nil => simp [Rows.uptoBulkAll]
  | cons x r ih => have := bulk_one x; simp only [Rows.uptoBulkAll, List.length_cons]; omega
theorem ht_wd {d : DataW H} {p : Pu} (h : HT Tryd.prog 52 d p) : ∃ (a b : Pu) (ts : List KT), p = wdP a b ts ∧ ts.length ≤ Rows.uptoBulk d ∧ ∀ x ∈ ts, tsize x.2 ≤ Rows.uptoBulk d ∧ rgT x.2 := by
  obtain ⟨ds, ps, rfl, rfl, hA⟩ := h.agg_inv c_wd
  clear h
  have h := hA
  clear hA
  obtain ⟨d1, ds, p1, ps, rfl, rfl, h1, h⟩ := h.cons_inv
  obtain ⟨d2, ds, p2, ps, rfl, rfl, h2, h⟩ := h.cons_inv
  obtain ⟨d3, ds, p3, ps, rfl, rfl, h3, h⟩ := h.cons_inv
  obtain ⟨rfl, rfl⟩ := h.nil_inv
  obtain ⟨es, sp, qs, he, rfl, hq⟩ := h3.sl_inv u_kts
  have hb := sl_bulk he
  simp only [Rows.uptoBulk, Rows.uptoBulkAll]
  obtain ⟨l, rfl, hl, hφ⟩ := HTs.all (enc := ktP) (φ := fun d (x : KT) => tsize x.2 ≤ Rows.uptoBulk d ∧ rgT x.2) hq fun d hm p hp => ht_kt hp
  have hle := bulk_len es
  refine ⟨p1, p2, l, rfl, by omega, fun x hx => ?_⟩
  obtain ⟨i, d, g1, g2⟩ := mem_pair hl hx
  have := hφ i d x g1 g2
  have hm := bulk_mem (List.mem_of_getElem? g1)
  exact ⟨by omega, this.2⟩
end Go.Proofs.YtkcgkignhpepkaaDoor

/- From a row's condition to a contract: what is alike for all laws. -/
namespace Go.Proofs.YtkcgkignhpepkaaDoor
open Go Hs
open Go.ChangeShapes Go.WideShapes Go.ChangeAt Go.RowKit

/-- A world that holds some package variables. -/
def TabsL (l : List (Nat × Int)) (W : World) : Prop := ∀ g n, (g, n) ∈ l → ∀ j u, ((sumR n).map fun z => Value.int .u8 z)[j]? = some u → W.cell? ⟨g, j, none⟩ = some u
theorem tab_one {W : World} {name : String} {n : Int} {g : Nat} {l : List (String × DataW Unit)} (h : laidMetH Tryd.prog l W)
    (hl : l.filter (fun x => x.1 == name) = [(name, Lib.tabData .u8 (sumR n))]) (hg : Tryd.prog.globalNamed name = some g) (hty : (Tryd.prog.globals[g]?).map (·.type) = some 23) :
    ∀ j u, ((sumR n).map fun z => Value.int .u8 z)[j]? = some u → W.cell? ⟨g, j, none⟩ = some u := by
  have h1 := h.filter (fun x => x.1 == name)
  rw [hl] at h1
  have h2 : laidMet Tryd.prog [(name, Lib.tabData .u8 (sumR n))] W := by
    have := (laidMetH_iff.1 h1).1
    simpa [Lib.tabData, DataW.handleName?] using this
  have h3 := Lib.tabIs_of_head (t := 23) (e := 5) (n := 32) hg hty (by kernel_rfl) (by kernel_rfl) (by kernel_rfl) (by kernel_rfl) h2
  intro j u hj
  have := World.var?_cell hg h3 j
  rw [this, List.getElem?_toArray]
  exact hj
theorem tyU8 {z : Int} : tyP Tryd.prog 5 (.leaf (.int .u8 z)) = true := (by kernel_rfl : (comps Tryd.prog 5).isNone = true)
theorem tySum {r : List Int} : tyV Tryd.prog 23 (.pu (refP r)) = true := (by kernel_rfl : ((comps Tryd.prog 23).isSome && Tryd.prog.underlyingId 23 == Tryd.prog.underlyingId 23) = true)
theorem lenSum {n : Int} : ((sumR n).map fun z => Value.int .u8 z).length = Tryd.prog.cellsOf 23 := (by simp [sumR] : ((sumR n).map fun z => Value.int .u8 z).length = 32).trans (by kernel_rfl)
def bytL (l : List Int) : List Pu := l.map fun x => .leaf (.int .u8 x)
theorem prs_ints {D : Nat → Nat → Prop} {w : World} (zs : List Int) : PRs Tryd.prog D w (List.replicate zs.length (1, 5)) (bytL zs) (zs.map fun z => Value.int .u8 z) := by
  induction zs with
  | nil => exact .nil
  | cons z zs ih => exact PRs.cons (x := [.int .u8 z]) (.leaf rfl) rfl tyU8 ih
def cfg0 (W : World) : Cfg := { D := fun b _ => b < W.heap.size, ρ := fun _ => none, own := fun _ => none }
def gOf (l : List (Nat × Int)) : List (Nat × TypeId × Pu) := l.map fun x => (x.1, 23, refP (sumR x.2))
theorem gOf_get {l : List (Nat × Int)} {g : Nat} {T : TypeId} {p : Pu} (h : get (gOf l) g = some (T, p)) : ∃ n, (g, n) ∈ l ∧ T = 23 ∧ p = refP (sumR n) := by
  induction l with
  | nil => cases h
  | cons x l ih =>
    obtain ⟨i, n⟩ := x
    simp only [gOf, List.map_cons, get_cons] at h
    split at h
    · rename_i e; subst e; cases h; exact ⟨n, by simp, rfl, rfl⟩
    · obtain ⟨m, h1, h2⟩ := ih h
      exact ⟨m, by simp [h1], h2⟩
theorem gl_of {l : List (Nat × Int)} {W : World} (h : TabsL l W) : GL Tryd.prog (gOf l) (cfg0 W) W := by
  intro g T p hg
  obtain ⟨n, hm, rfl, rfl⟩ := gOf_get hg
  have hT := h g n hm
  refine VR.pp (x := (sumR n).map fun z => Value.int .u8 z) (.pu (PR.agg (cs := List.replicate 32 (1, 5)) (by kernel_rfl) (prs_ints (sumR n)))) tySum lenSum fun j u hj => ⟨by rw [Nat.zero_add]; exact hT j u hj, ?_⟩
  · have := hT j u hj
    show g < W.heap.size
    refine Nat.lt_of_not_le fun hb => ?_
    simp only [World.cell?, Array.getElem?_eq_none hb] at this
    cases this
theorem frag_of {l : List (Nat × Int)} {W : World} (h : TabsL l W) : Frag Tryd.prog (gOf l) (cfg0 W) W [] [] where
  heap := fun l ob h => by cases h
  inj := fun l l' b R R' ob ob' h => by cases h
  dObj := fun l ob b R o h => by cases h
  dLt := fun b o h => h
  own := fun b q k h => by cases h
  gl := gl_of h

/-- A contract, in a world that holds the package variables. -/
theorem call_of {l : List (Nat × Int)} {W : World} (hT : TabsL l W) {f : FuncId} {args : List PV} {xs : Array Value} (hc : FCall Tryd.prog (gOf l) f args (bv true)) (hx : VFs Tryd.prog (cfg0 W) W args xs.toList) :
    Calls Tryd.prog f xs W fun e W' => e = .returned (.bool true) ∧ Below W.heap.size W W' := by
  refine (hc (cfg0 W) W _ (frag_of hT) hx).mono fun e W' ⟨y, C', he, A⟩ => ?_
  subst he
  have hM : ∀ b, ¬ Mset (cfg0 W) [] b := fun b hb => by
    rcases hb with ⟨l, ob, R, h1, _⟩ | ⟨l, p, k, ob, h1, _⟩ <;> cases h1
  refine ⟨?_, ⟨A.os, A.tape, A.output, A.size, fun b hb => A.block b hb (hM b)⟩⟩
  cases A.val with
  | one h hs =>
    have h1 := h.pu_inv
    generalize hc : y.cells.toList = c at h1
    cases h1
    cases y <;> simp_all [Value.cells, valAgg, PV.isAgg]

theorem and_t {a b : Bool} (h1 : a = true) (h2 : b = true) : (a && b) = true := by rw [h1, h2]; rfl
theorem laidOutD : laidOutB Tryd.prog = true := by kernel_rfl
theorem undB : Tryd.prog.underlying 4 = some .bool := by kernel_rfl
/-! ### Arguments -/
section
variable {H : Type} {enc : TypeId × Value → H} {W : World}
theorem arg_ht {al : List TypeId} (hal : dataB Tryd.prog al = true) {t : TypeId} (ht : t ∈ al) {v : Value} {d : DataW H} {ps : List MemPlace} (h : DataW.Trod enc Tryd.prog W 0 (fun _ => true) true t v d ps) :
    ∃ p, HT Tryd.prog t d p ∧ PR Tryd.prog (cfg0 W).D W p v.cells.toList := by
  obtain ⟨fuel, hf⟩ := h
  obtain ⟨p, h1, h2, _, _⟩ := trod_ht tbl hal fuel t _ _ ht hf
  exact ⟨p, h1, h2⟩
end
end Go.Proofs.YtkcgkignhpepkaaDoor

/- StepFits: the card of its second form. -/
namespace Go.Proofs.YtkcgkignhpepkaaDoor.stepFits
open Go Hs
open Go.ChangeShapes Go.WideShapes Go.ChangeAt Go.RowKit

def tabs : List (Nat × Int) := [(5, 11), (1, 21)]
theorem tabs_of {W : World} (h : laidMetH Tryd.prog Rows.stepFitsUptoRow.laid W) : TabsL tabs W := by
  intro g n hm
  simp only [tabs, List.mem_cons, Prod.mk.injEq, List.not_mem_nil, or_false] at hm
  rcases hm with ⟨rfl, rfl⟩ | ⟨rfl, rfl⟩
  · exact tab_one (name := "hoarstone/hoarstonekit.State") h (by rfl) (by kernel_rfl) (by kernel_rfl)
  · exact tab_one (name := "hoarstone/hoarstonekit.Inc") h (by rfl) (by kernel_rfl) (by kernel_rfl)
def al : List TypeId := [26, 24, 30, 27, 34, 28, 23, 5, 3]
theorem al_ok : dataB Tryd.prog al = true := by kernel_rfl
theorem par : Tryd.f3.params = #[26, 30] := by kernel_rfl
theorem two {Q : TypeId → Value → Prop} {a b : TypeId} {x y : Value} (h : ∀ (j : Nat) t v, (#[a, b] : Array TypeId)[j]? = some t → (#[x, y] : Array Value)[j]? = some v → Q t v) : Q a x ∧ Q b y := ⟨h 0 a x rfl rfl, h 1 b y rfl rfl⟩
theorem pt_agg (p : Pat) : true = (PV.pu (patc 0 p)).isAgg := by cases p; rfl
theorem tm_agg (t : Tm) : true = (PV.pu (tmc 0 t)).isAgg := by cases t; rfl

set_option maxRecDepth 100000 in
/-- The contract. -/
theorem contract (H : Type) (enc : TypeId × Value → H) (W : World) (base : Nat) (args : Array Value) (ds gs : List (DataW H)) (before : List MemPlace)
    (hval : ∀ (j : Nat) t v, Tryd.f3.params[j]? = some t → args[j]? = some v → Value.okWide Tryd.prog W .any base t v)
    (hW : DataW.Whole enc Tryd.prog Tryd.f3.params.toList Rows.stepFitsSpec.vars false W args.toList ds gs before) (hL : laidMetH Tryd.prog Rows.stepFitsUptoRow.laid W) (hk : Rows.uptoSmall H (ds ++ gs) = true) :
    Calls Tryd.prog 3 args W fun e W' => ∃ v, e = .returned v ∧ Rows.stepFitsSpec.post enc Tryd.prog Tryd.f3 false true false false W args v W' := by
  have hT := tabs_of hL
  have hW' := hW
  obtain ⟨p, q, hA0, hV, rfl, hfz, hnd⟩ := hW
  have hA : DataW.TrodAll enc Tryd.prog W 0 (fun _ => true) true Tryd.f3.params.toList args.toList ds p := hA0
  rw [par] at hA hval
  obtain ⟨v0, vs0, d0, ds0, p0, q0, hargs, rfl, rfl, h0, r0⟩ := trodAll_cons hA
  obtain ⟨v1, vs1, d1, ds1, p1, q1, e1, rfl, rfl, h1, r1⟩ := trodAll_cons r0
  obtain ⟨rfl, rfl, rfl⟩ := trodAll_nil r1
  subst e1
  obtain rfl : args = #[v0, v1] := by cases args; simp_all
  obtain ⟨rfl, rfl⟩ := trodVars_none hV
  obtain ⟨hv0, hv1⟩ := two hval
  clear hval
  simp only [List.append_nil] at hW' hA0 hk
  have hbulk : Rows.uptoBulkAll [d0, d1] ≤ 1048576 := of_decide_eq_true hk
  simp only [Rows.uptoBulkAll] at hbulk
  have hlt : ∀ x ∈ p0 ++ p1, x.block < W.heap.size := fun x hx => by simpa using hW'.lt x (by simpa using hx)
  obtain ⟨u0, t0, x0⟩ := arg_ht al_ok (by simp [al]) h0
  obtain ⟨u1, t1, x1⟩ := arg_ht al_ok (by simp [al]) h1
  obtain ⟨q0, rfl, hq⟩ := ht_pat _ d0 (Nat.le_refl _) _ t0
  obtain ⟨t, rfl, ht, hrg⟩ := ht_tm _ d1 (Nat.le_refl _) _ t1
  have hagg0 : valAgg v0 = true := agg_of (by kernel_rfl) hv0
  have hagg1 : valAgg v1 = true := agg_of (by kernel_rfl) hv1
  have hc := stepFits_c q0 t (by omega) (by omega)
  refine (call_of (l := tabs) hT hc (xs := #[v0, v1]) (.cons (.pu x0) (hagg0.trans (pt_agg q0)) (.cons (.pu x1) (hagg1.trans (tm_agg t)) .nil))).mono fun e W' ⟨he, hb⟩ => ?_
  subst he
  have s0 := Below.trod laidOutD (by kernel_rfl) (of_decide_eq_true (by kernel_rfl)) h0 hb fun x hx => hlt x (by simp [hx])
  have s1 := Below.trod laidOutD (by kernel_rfl) (of_decide_eq_true (by kernel_rfl)) h1 hb fun x hx => hlt x (by simp [hx])
  refine ⟨_, rfl, _, _, _, [], p0 ++ p1, [], hW', ?_, ?_, rfl, ?_, fun h => by cases h⟩
  · exact trodAll_mk1 (shut_bool undB _)
  · exact trodAll_mk2 s0 s1
  · simpa using hb.frame _

theorem own : ownKnob Tryd.prog.godebug = none := by kernel_rfl
/-- A world for the witness. -/
noncomputable def lay (h : Array Obj) (g : Nat) (n : Int) : Array Obj := h.modify g fun
  | .cells _ t frozen => .cells ((sumR n).map fun z => Value.int .u8 z).toArray t frozen
  | o => o
noncomputable def zeros : Array Value := #[.agg (((Value.int .i64 0 :: Value.int .i64 0 :: List.replicate 32 (Value.int .u8 0)) ++ [Value.slice none 0 0]).toArray), .agg (((Value.int .i64 0 :: Value.int .i64 0 :: List.replicate 32 (Value.int .u8 0)) ++ [Value.slice none 0 0, Value.slice none 0 0]).toArray)]
noncomputable def laidWorld (os : Os) : World :=
  { World.holding Tryd.prog os ⟨#[], #[], []⟩ with heap := tabs.foldl (fun h (x : Nat × Int) => lay h x.1 x.2) (World.holding Tryd.prog os ⟨#[], #[], []⟩).heap }
theorem laid_met (os : Os) : laidMet Tryd.prog Rows.stepFitsUptoRow.laid ((laidWorld os).forCall (fun _ _ => 0) ⟨#[], zeros, []⟩).memory :=
  laidMet_of_run' 8 (by kernel_rfl) (by kernel_rfl)
noncomputable def zeroSum {H : Type} : DataW H := .agg (List.replicate 32 (.lit (.int .u8 0)))
noncomputable def zeroDs {H : Type} : List (DataW H) := [.agg [.lit (.int .i64 0), .lit (.int .i64 0), zeroSum, .nil], .agg [.lit (.int .i64 0), .lit (.int .i64 0), zeroSum, .nil, .nil]]
theorem reads (os : Os) {H : Type} (enc : TypeId × Value → H) : ∃ places, DataW.whole enc Tryd.prog ((laidWorld os).forCall (fun _ _ => 0) ⟨#[], zeros, []⟩).memory Tryd.f3.params.toList Rows.stepFitsSpec.vars false zeros.toList 8 = some (zeroDs, [], places) :=
  ⟨[], by kernel_rfl⟩
set_option maxRecDepth 100000 in
theorem lifted (os : Os) (started : os.Started) (H : Type) (enc : TypeId × Value → H) (F : Stop.Interp) :
    ReturnsInHanded {} Tryd.checked os 3 .any ((Rows.OpenSpec.upto Rows.stepFitsSpec).preRow enc Tryd.prog Tryd.f3 Rows.stepFitsUptoRow.domain false Rows.stepFitsUptoRow.laid) (((Rows.OpenSpec.upto Rows.stepFitsSpec).at F).post enc Tryd.prog Tryd.f3 false true false false) := by
  obtain ⟨places, hx⟩ := reads os enc
  refine returnsInHanded_of_row (C := Tryd.checked) (s := Rows.OpenSpec.upto Rows.stepFitsSpec) own started (by kernel_rfl) Tryd.func3
    (witness_row_at (enc := enc) (C := Tryd.checked) false (laidWorld os) zeros rfl (by kernel_rfl) (by kernel_rfl) (by kernel_rfl)
      (OpenSpec.preRow_of_cond 8 hx (by kernel_rfl) (fun k hk => by cases hk; kernel_rfl) (by kernel_rfl) (laid_met os))) ?_
  intro W base args ds gs before hval hW _ hcond _ hL _ _
  exact contract H enc W base args ds gs before hval hW hL (hcond _ rfl)
set_option maxHeartbeats 100000000 in
theorem facts : joinedFacts Tryd.pinned.checked.prog 3 Tryd.f3 (Rows.OpenSpec.upto Rows.stepFitsSpec).bare Rows.stepFitsUptoRow = true := by
  unfold joinedFacts
  repeat' (with_reducible refine and_t ?_ ?_)
  all_goals (as_aux_lemma => kernel_rfl)
theorem said : Rows.StepFitsUptoSaid :=
  OpenClaim.holds_of_cond 3 Tryd.f3 rfl rfl rfl rfl rfl rfl rfl ⟨rfl, rfl, rfl, rfl, rfl⟩ rfl rfl rfl rfl rfl (by kernel_rfl) Tryd.func3 facts
    (of_decide_eq_true (by kernel_rfl)) (by unfold Func.isWrapper; first | (rw [if_pos (by decide +kernel)]; kernel_rfl) | (rw [if_neg (by decide +kernel)]; exact ⟨rfl, rfl⟩))
    (fun os started H enc _ F => by rw [OpenClaim.pre_eq_preRow]; exact lifted os started H enc F)
theorem plain (f : FuncId) (fn : Func) (hf : Tryd.pinned.checked.prog.funcNamed "hoarstone/hoarstonelaw16.StepFits" = some f) (hfn : Tryd.pinned.checked.prog.funcs[f]? = some fn) :
    false = Tryd.pinned.checked.prog.looks [] ∧ ∀ (j : Nat) t, fn.params[j]? = some t → Tryd.pinned.checked.prog.wantsStandIn t = false := by
  obtain rfl : f = 3 := Option.some.inj ((show Tryd.prog.funcNamed "hoarstone/hoarstonelaw16.StepFits" = some 3 by kernel_rfl).symm.trans hf) |>.symm
  obtain rfl : fn = Tryd.f3 := (Option.some.inj (Tryd.func3.symm.trans hfn)).symm
  refine ⟨by kernel_rfl, fun j t ht => ?_⟩
  rw [par] at ht
  have hm := Array.mem_of_getElem? ht
  have q0 : Tryd.prog.wantsStandIn 26 = false := by kernel_rfl
  have q1 : Tryd.prog.wantsStandIn 30 = false := by kernel_rfl
  simp only [List.mem_toArray, List.mem_cons, List.not_mem_nil, or_false] at hm
  rcases hm with rfl | rfl
  · exact q0
  · exact q1
theorem card : Rows.StepFitsUptoCardSaid :=
  Claim7.holds_tied_plain_at .later [] _ _ _ _ said (fun _ h => by cases h) (by kernel_rfl) (fun _ h => by cases h) stepFitsUpto_row_tie rfl ⟨rfl, rfl⟩ (by kernel_rfl) rfl plain (by kernel_rfl)
end Go.Proofs.YtkcgkignhpepkaaDoor.stepFits

