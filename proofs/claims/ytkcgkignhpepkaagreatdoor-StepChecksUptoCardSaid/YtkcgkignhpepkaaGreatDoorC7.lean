/- Part 7 of the proof: lemmas on walks and the walks of the functions, in their order. -/
import Derived.Test.YtkcgkignhpepkaaGreatDoorC6
import Derived.Test.YtkcgkignhpepkaaGreatDoorRows
import Derived.Test.YtkcgkignhpepkaaGreatDoorCards
import Derived.Test.YtkcgkignhpepkaaGreatDoorTie
import Derived.WalkKit
import Derived.ProofKit
import Derived.OpenShut
import Derived.Lib.LaidTab
import Derived.LaidSub
import Derived.Deep.DeepHandedRow
set_option linter.unusedSimpArgs false
set_option linter.unusedVariables false
/- Whether a term is more than is looked at. -/
namespace Go.Proofs.YtkcgkignhpepkaaGreatDoor
open Go Hs
variable {G : List (Nat × TypeId × Pu)}

abbrev gcO (c : Int) : List (Nat × Ob) := [(3, .var 3 (iv .i64 c))]
abbrev gpV : PV := .fn (.func 119) [] [.ptr 3 [] 3, .ptr 4 [] 185]
abbrev gtV : PV := .fn (.func 121) [] [.ptr 3 [] 3, .ptr 5 [] 45, .ptr 4 [] 185]
abbrev gcV : PV := .fn (.func 124) [] [.ptr 4 [] 185, .ptr 5 [] 45]
abbrev gpO : List (Nat × Ob) := [(4, .var 185 gpV)]
abbrev gtO : List (Nat × Ob) := [(4, .var 185 gpV), (5, .var 45 gtV)]
abbrev MD : Int := 1152921504606846976

theorem gp_c : ∀ (N : Nat) (p : Pat), psize p ≤ N → N < 2^40 → ∀ (d c : Int), 0 ≤ c ∧ c ≤ 400 → 0 ≤ d ∧ d + N ≤ 2^50 →
    HCall Tryz.prog G 119 [.pu (patc 0 p), .ptr 3 [] 3, .ptr 4 [] 185] gpO (gcO c) (bv (longP 400 MD d c p).1) (gcO (longP 400 MD d c p).2) [] := by
  intro N
  induction N with
  | zero => intro p h; cases p; simp [psize] at h
  | succ N ih =>
  intro p hp hN d c hc hd
  obtain ⟨k, n, r, ks⟩ := p
  simp only [psize] at hp
  have hlen := length_psizeL ks
  have key : c + 1 ≤ 400 → ∃ r, r.isSome = (longPs 400 MD (d + 1) (c + 1) ks).1 ∧ AnyC Tryz.prog G 119 [] [.ptr 3 [] 3, .ptr 4 [] 185] gpO (patsc 0 ks) (gcO (c + 1)) r (gcO (longPs 400 MD (d + 1) (c + 1) ks).2) := fun hc' => by
    rw [longPs_eq, pats_eq]
    refine AnyC.state (patc 0) (longP 400 MD (d + 1)) gcO (fun c => 0 ≤ c ∧ c ≤ 400) (fun _ => rfl) ks (fun a ha c hc => ?_) (c + 1) ⟨by omega, hc'⟩
    have hb := longP_b (mn := 400) (md := MD) a (d + 1) c hc.2
    exact ⟨ih a (by have := psize_mem ha; omega) (by omega) (d + 1) c hc (by omega), fun e => ⟨by have := hb.1; omega, hb.2.2 e⟩⟩
  refine HCall.of_triD tbl 15 [3, 4] Tryz.func119 rfl rfl rfl fun w0 M ρ0 D0 => ?_
  by_cases hcut : 400 < c + 1
  · have e : longP 400 MD d c (.mk k n r ks) = (true, c + 1) := by simp only [longP]; rw [if_pos (.inl hcut)]
    rw [e, ← wrap64 (n := c + 1) (by omega) (by omega)]
    have hb0 : decide (IntKind.i64.wrap (c + 1) > 400) = true := by rw [wrap64 (by omega) (by omega)]; simp; omega
    refine yR ?_
    refine s_box SS 31 ?_
    refine yB ?_
    refine e_seqN [31] ?_
    refine yR ?_
    refine yL ?_
    refine yI ?_
    refine yS ?_
    refine e_seq ?_
    refine yR ?_
    refine yL ?_
    refine yI ?_
    refine yM ?_
    refine xF ?_
    refine xL ?_
    refine xL ?_
    refine s_callG zG (f := 120) (args := [.pu (.sl 0 104 (patsc 0 ks)), gpV]) (HR := []) (H := []) (H' := []) (v := bv false) (fun e => by simp [hb0] at e) (fun _ => .nil) ?_
    refine yO ?_
    refine yA ?_
    refine e_seq ?_
    repeat refine Tri.seq ?_
    exact Tri.ret ⟨.inr rfl, ret1 rfl resV_tmp (bv_imp (by rw [hb0]; rfl)), by repeat (first | exact OutH.nil | refine OutH.cons rfl (by first | exact ObImp.refl _ | exact OWk.imp (by repeat constructor)) ?_)⟩
  · obtain ⟨r1, hr1, hA⟩ := key (by omega)
    have e : longP 400 MD d c (.mk k n r ks) = longPs 400 MD (d + 1) (c + 1) ks := by simp only [longP]; rw [if_neg (by simp only [MD]; omega)]
    have hb0 : decide (IntKind.i64.wrap (c + 1) > 400) = false := by rw [wrap64 (by omega) (by omega)]; simp; omega
    rw [e]
    generalize longPs 400 MD (d + 1) (c + 1) ks = q1 at hr1 hA ⊢
    obtain ⟨b1, c1⟩ := q1
    simp only at hr1 hA ⊢
    rw [← wrap64 (n := c + 1) (by omega) (by omega)] at hA
    refine yR ?_
    refine s_box SS 31 ?_
    refine yB ?_
    refine e_seqN [31] ?_
    refine yR ?_
    refine yL ?_
    refine yI ?_
    refine yS ?_
    refine e_seq ?_
    refine yR ?_
    refine yL ?_
    refine yI ?_
    refine yM ?_
    refine xF ?_
    refine xL ?_
    refine xL ?_
    refine s_callG zG (f := 120) (args := [.pu (.sl 0 104 (patsc 0 ks)), gpV]) (HR := gpO) (H := gcO (IntKind.i64.wrap (c + 1))) (H' := gcO c1) (v := bv b1) (fun _ => hr1 ▸ conPat_d (lo := 0) gpV (by rw [pats_length]; omega) hA) (fun e => by simp [hb0] at e) ?_
    refine yO ?_
    refine yA ?_
    refine e_seq ?_
    repeat refine Tri.seq ?_
    exact Tri.ret ⟨.inr rfl, ret1 rfl resV_tmp (bv_imp (by rw [hb0]; rfl)), by repeat (first | exact OutH.nil | refine OutH.cons rfl (by first | exact ObImp.refl _ | exact OWk.imp (by repeat constructor)) ?_)⟩

theorem gc_c (p : Pat) (t : Tm) (d c : Int) (hc : 0 ≤ c ∧ c ≤ 400) (hd : 0 ≤ d ∧ d + psize p ≤ 2^50) (hpz : psize p < 2^40)
    (h2 : (longP 400 MD d c p).1 = false → HCall Tryz.prog G 121 [.pu (tmc 0 t), .ptr 3 [] 3, .ptr 5 [] 45, .ptr 4 [] 185] gtO (gcO (longP 400 MD d c p).2) (bv (longT 400 MD d (longP 400 MD d c p).2 t).1) (gcO (longT 400 MD d (longP 400 MD d c p).2 t).2) []) :
    HCall Tryz.prog G 124 [.pu (csec 0 (.mk p t)), .ptr 4 [] 185, .ptr 5 [] 45] gtO (gcO c) (bv (longC 400 MD d c (.mk p t)).1) (gcO (longC 400 MD d c (.mk p t)).2) [] := by
  have h := gp_c (G := G) _ p (Nat.le_refl _) hpz d c hc hd
  rw [grC_parts]
  generalize hb1 : longP 400 MD d c p = r1 at h h2 ⊢
  obtain ⟨b1, c1⟩ := r1
  simp only at h h2 ⊢
  refine HCall.of_triD tbl 15 [3, 4, 5] Tryz.func124 rfl rfl rfl fun w0 M ρ0 D0 => ?_
  refine yR ?_
  refine s_box SS 31 ?_
  refine yB ?_
  refine e_seqN [31] ?_
  refine yR ?_
  refine yL ?_
  refine yF ?_
  refine yL ?_
  refine s_call (h) ?_
  refine yM ?_
  refine xL ?_
  refine xF ?_
  refine xL ?_
  refine s_callG zG (f := 121) (args := [.pu (tmc 0 t), .ptr 3 [] 3, .ptr 5 [] 45, .ptr 4 [] 185]) (HR := gtO) (H := gcO c1) (H' := gcO (if b1 = true then c1 else (longT 400 MD d c1 t).2)) (v := bv (longT 400 MD d c1 t).1) (fun e => ?_) (fun e => ?_) ?_
  · have e' : b1 = false := by simpa using e
    have := h2 e'
    simpa [e'] using this
  · have e' : b1 = true := by simpa using e
    exact .cons rfl (by simp [e']) .nil
  refine yO ?_
  refine yA ?_
  refine e_seq ?_
  repeat refine Tri.seq ?_
  exact Tri.ret ⟨.inr rfl, ret1 rfl resV_tmp (VImp.refl _), by repeat (first | exact OutH.nil | refine OutH.cons rfl (by first | exact ObImp.refl _ | exact OWk.imp (by repeat constructor)) ?_)⟩

theorem gT_parts (d c k n : Int) (r : List Int) (ks : List Tm) (cs : List Cs) (h : ¬ (400 < c + 1 ∨ MD < d)) : longT 400 MD d c (.mk k n r ks cs) = ((longTs 400 MD (d + 1) (c + 1) ks).1 || (longCs 400 MD (d + 1) (longTs 400 MD (d + 1) (c + 1) ks).2 cs).1, if (longTs 400 MD (d + 1) (c + 1) ks).1 then (longTs 400 MD (d + 1) (c + 1) ks).2 else (longCs 400 MD (d + 1) (longTs 400 MD (d + 1) (c + 1) ks).2 cs).2) := by
  simp only [longT, if_neg h]
  rcases longTs 400 MD (d + 1) (c + 1) ks with ⟨b, c'⟩
  cases b <;> simp

set_option maxHeartbeats 1000000 in
theorem gt_c : ∀ (N : Nat) (t : Tm), tsize t ≤ N → N < 2^40 → ∀ (d c : Int), 0 ≤ c ∧ c ≤ 400 → 0 ≤ d ∧ d + N ≤ 2^50 →
    HCall Tryz.prog G 121 [.pu (tmc 0 t), .ptr 3 [] 3, .ptr 5 [] 45, .ptr 4 [] 185] gtO (gcO c) (bv (longT 400 MD d c t).1) (gcO (longT 400 MD d c t).2) [] := by
  intro N
  induction N with
  | zero => intro t h; have := tsize_pos t; omega
  | succ N ih =>
  intro t hp hN d c hc hd
  obtain ⟨k, n, r, ks, cs⟩ := t
  simp only [tsize] at hp
  have hlen := length_tsizeL ks
  have hlenc := length_csizeL cs
  have keyT : c + 1 ≤ 400 → ∃ r, r.isSome = (longTs 400 MD (d + 1) (c + 1) ks).1 ∧ AnyC Tryz.prog G 121 [] [.ptr 3 [] 3, .ptr 5 [] 45, .ptr 4 [] 185] gtO (tmsc 0 ks) (gcO (c + 1)) r (gcO (longTs 400 MD (d + 1) (c + 1) ks).2) := fun hc' => by
    rw [longTs_eq, tms_eq]
    refine AnyC.state (tmc 0) (longT 400 MD (d + 1)) gcO (fun c => 0 ≤ c ∧ c ≤ 400) (fun _ => rfl) ks (fun a ha c hc => ?_) (c + 1) ⟨by omega, hc'⟩
    have hb := longT_b (mn := 400) (md := MD) a (d + 1) c hc.2
    exact ⟨ih a (by have := tsize_mem ha; omega) (by omega) (d + 1) c hc (by omega), fun e => ⟨by have := hb.1; omega, hb.2.2 e⟩⟩
  have keyC : ∀ c1, 0 ≤ c1 ∧ c1 ≤ 400 → ∃ r, r.isSome = (longCs 400 MD (d + 1) c1 cs).1 ∧ AnyC Tryz.prog G 124 [] [.ptr 4 [] 185, .ptr 5 [] 45] gtO (cssc 0 cs) (gcO c1) r (gcO (longCs 400 MD (d + 1) c1 cs).2) := fun c1 hc1 => by
    rw [longCs_eq, css_eq]
    refine AnyC.state (csec 0) (longC 400 MD (d + 1)) gcO (fun c => 0 ≤ c ∧ c ≤ 400) (fun _ => rfl) cs (fun a ha c hc => ?_) c1 hc1
    have hb := longC_b (mn := 400) (md := MD) a (d + 1) c hc.2
    have hsz := csize_mem ha
    obtain ⟨q, b⟩ := a
    simp only [csize] at hsz
    have hp1 := longP_b (mn := 400) (md := MD) q (d + 1) c hc.2
    have htp := tsize_pos b
    have hqp := psize_pos q
    exact ⟨gc_c q b (d + 1) c hc (by omega) (by omega) (fun e => ih b (by omega) (by omega) (d + 1) _ ⟨by have := hp1.1; omega, hp1.2.2 e⟩ (by omega)), fun e => ⟨by have := hb.1; omega, hb.2.2 e⟩⟩
  refine HCall.of_triD tbl 22 [3, 4, 5] Tryz.func121 rfl rfl rfl fun w0 M ρ0 D0 => ?_
  by_cases hcut : 400 < c + 1
  · have e : longT 400 MD d c (.mk k n r ks cs) = (true, c + 1) := by simp only [longT]; rw [if_pos (.inl hcut)]
    rw [e, ← wrap64 (n := c + 1) (by omega) (by omega)]
    have hb0 : decide (IntKind.i64.wrap (c + 1) > 400) = true := by rw [wrap64 (by omega) (by omega)]; simp; omega
    refine yR ?_
    refine s_box SS 31 ?_
    refine yB ?_
    refine e_seqN [31] ?_
    refine yR ?_
    refine yL ?_
    refine yI ?_
    refine yS ?_
    refine e_seq ?_
    refine yR ?_
    refine yL ?_
    refine yI ?_
    refine yM ?_
    refine xF ?_
    refine xL ?_
    refine xL ?_
    refine s_callG zG (f := 122) (args := [.pu (.sl 0 32 (tmsc 0 ks)), gtV]) (HR := []) (H := []) (H' := []) (v := bv false) (fun e => by simp [hb0] at e) (fun _ => .nil) ?_
    refine yO ?_
    refine yM ?_
    refine xF ?_
    refine xL ?_
    refine s_gg zG (v_mkFnD SS) ?_
    refine s_callG zG (f := 123) (args := [.pu (.sl 0 106 (cssc 0 cs)), gcV]) (HR := []) (H := []) (H' := []) (v := bv false) (fun e => by simp [hb0] at e) (fun _ => .nil) ?_
    refine yO ?_
    refine yA ?_
    refine e_seq ?_
    repeat refine Tri.seq ?_
    exact Tri.ret ⟨.inr rfl, ret1 rfl resV_tmp (bv_imp (by rw [hb0]; rfl)), by repeat (first | exact OutH.nil | refine OutH.cons rfl (by first | exact ObImp.refl _ | exact OWk.imp (by repeat constructor)) ?_)⟩
  · obtain ⟨r1, hr1, hA⟩ := keyT (by omega)
    have hb1 := longTs_b (mn := 400) (md := MD) ks (d + 1) (c + 1) (by omega)
    have hb0 : decide (IntKind.i64.wrap (c + 1) > 400) = false := by rw [wrap64 (by omega) (by omega)]; simp; omega
    rw [gT_parts d c k n r ks cs (by simp only [MD]; omega)]
    generalize longTs 400 MD (d + 1) (c + 1) ks = q1 at hr1 hA hb1 ⊢
    obtain ⟨b1, c1⟩ := q1
    obtain ⟨hb1, _, hb2⟩ := hb1
    simp only at hr1 hA hb1 hb2 ⊢
    rw [← wrap64 (n := c + 1) (by omega) (by omega)] at hA
    have hC : b1 = false → ∃ r2 : Option Nat, r2.isSome = (longCs 400 MD (d + 1) c1 cs).1 ∧ _ := fun e => keyC c1 ⟨by omega, hb2 e⟩
    refine yR ?_
    refine s_box SS 31 ?_
    refine yB ?_
    refine e_seqN [31] ?_
    refine yR ?_
    refine yL ?_
    refine yI ?_
    refine yS ?_
    refine e_seq ?_
    refine yR ?_
    refine yL ?_
    refine yI ?_
    refine yM ?_
    refine xF ?_
    refine xL ?_
    refine xL ?_
    refine s_callG zG (f := 122) (args := [.pu (.sl 0 32 (tmsc 0 ks)), gtV]) (HR := gtO) (H := gcO (IntKind.i64.wrap (c + 1))) (H' := gcO c1) (v := bv b1) (fun _ => hr1 ▸ conTm_d (lo := 0) gtV (by rw [tms_length]; omega) hA) (fun e => by simp [hb0] at e) ?_
    refine yO ?_
    refine yM ?_
    refine xF ?_
    refine xL ?_
    refine s_gg zG (v_mkFnD SS) ?_
    refine s_callG zG (f := 123) (args := [.pu (.sl 0 106 (cssc 0 cs)), gcV]) (HR := gtO) (H := gcO c1) (H' := gcO (if b1 = true then c1 else (longCs 400 MD (d + 1) c1 cs).2)) (v := bv (longCs 400 MD (d + 1) c1 cs).1) (fun e => ?_) (fun e => ?_) ?_
    · have e' : b1 = false := by simpa [hb0] using e
      obtain ⟨r2, hr2, hA2⟩ := hC e'
      simp only [e', Bool.false_eq_true, if_false]
      exact hr2 ▸ conCs_d (lo := 0) gcV (by rw [css_length]; omega) hA2
    · have e' : b1 = true := by simpa [hb0] using e
      exact .cons rfl (by simp [e']) .nil
    refine yO ?_
    refine yA ?_
    refine e_seq ?_
    repeat refine Tri.seq ?_
    exact Tri.ret ⟨.inr rfl, ret1 rfl resV_tmp (bv_imp (by rw [hb0]; rfl)), by repeat (first | exact OutH.nil | refine OutH.cons rfl (by first | exact ObImp.refl _ | exact OWk.imp (by repeat constructor)) ?_)⟩

def greatM (t : Tm) : Bool := (longT 400 MD 0 0 t).1
theorem great_size {t : Tm} (h : greatM t = false) : tsize t ≤ 400 := by
  obtain ⟨_, h2⟩ := longT_ls 400 MD t 0 0
  unfold greatM at h
  refine Nat.le_of_not_lt fun hlt => ?_
  have := h2 (by omega)
  rw [h] at this; cases this
theorem great_c (t : Tm) (hN : tsize t < 2^40) : FCall Tryz.prog G 52 [.pu (tmc 0 t)] (bv (greatM t)) := by
  refine FCall.of_tri tbl 11 Tryz.func52 rfl rfl rfl fun w0 M ρ0 D0 => ?_
  refine yR ?_
  refine s_box SS 1 ?_
  refine yB ?_
  refine e_seqN [1] ?_
  refine yR ?_
  refine s_alloc SS 3 ?_
  refine yS ?_
  refine e_seqN [3] ?_
  refine yR ?_
  refine s_alloc SS 4 ?_
  refine e_seqN [4] ?_
  refine yR ?_
  refine s_val (v_mkFnD SS) ?_
  refine yS ?_
  refine e_seq ?_
  refine yR ?_
  refine s_alloc SS 5 ?_
  refine e_seqN [5] ?_
  refine yR ?_
  refine s_val (v_mkFnD SS) ?_
  refine yS ?_
  refine e_seq ?_
  refine yR ?_
  refine yL ?_
  refine yL ?_
  refine s_call (gt_c _ t (Nat.le_refl _) hN 0 0 (by omega) (by omega)) ?_
  refine yA ?_
  refine e_seq ?_
  repeat refine Tri.seq ?_
  exact Tri.ret ⟨.inr rfl, ret1 rfl resV_tmp (VImp.refl _)⟩
end Go.Proofs.YtkcgkignhpepkaaGreatDoor

/- Whether a world is more than is looked at; a world's own copy. -/
namespace Go.Proofs.YtkcgkignhpepkaaGreatDoor
open Go Hs
section
variable {G : List (Nat × TypeId × Pu)} {lo : Nat}
theorem idxKt_c {vf : PV} {f : FuncId} {first captured : List PV} {HR : List (Nat × Ob)} (hvf : fnV vf = some (f, first, captured)) (hst : Str vf vf) (hnt : isTup vf = false) (hent : entersB Tryz.prog f = true) (hna : (first ++ captured).any isTup = false)
    (hfree : ∀ l ob, get HR l = some ob → freeOb ob = true) {ps : List Pu} (hlen : ps.length < 4611686018427387904) {H H' : List (Nat × Ob)} {r : Option Nat} (hd0 : disjB HR H' = true) (hk : ∀ l ob, get H l = some ob → ∃ ob', get H' l = some ob') (hR : ∀ l ob, get HR l = some ob → get H l = none)
    (h : AnyC Tryz.prog G f first captured HR ps H r H') : HCall Tryz.prog G 142 [.pu (.sl lo 116 ps), vf] HR H (iv .i64 (idxV r)) H' [] := by
  refine HCall.of_tri tbl (n := 19) (L := keysOf H' ++ heapLabs H') Tryz.func142 rfl rfl hfree (fun l ob hl => disjB_none hd0 hl) (fun l hl => by simp [PV.labs] at hl) (fun l ob hl => keys_mem hl) hk ?_
  rintro ⟨w0, n', M, G', L, R, ρ0, D0, ro⟩ hn hG hL hR' hro
  simp only at hn hG hL hR' hro
  subst hn hG hL hR' hro
  have hset : ∀ (i : Nat) (H1 : List (Nat × Ob)) (r1 : Option Nat), AnyC Tryz.prog G' f first captured HR (ps.drop i) H1 r1 H' → True := fun _ _ _ _ => trivial
  let σ := {s : Nat × List (Nat × Ob) × Option Nat // AnyC Tryz.prog G' f first captured HR (ps.drop s.1) s.2.1 s.2.2 H' ∧ s.1 ≤ ps.length ∧ idxV r = (match s.2.2 with | some j => ((s.1 + j : Nat) : Int) | none => -1) ∧ (∀ l ob, get s.2.1 l = some ob → l ∉ keysOf HR)}
  refine yR ?_
  refine yB ?_
  refine e_seq ?_
  refine yR ?_
  refine yM ?_
  refine yC ?_
  refine yJ ?_
  refine e_seq ?_
  repeat refine Tri.seq ?_
  refine Tri.block (Tri.loop (σ := σ) (fun s => ⟨[(0, .pu (.sl lo 116 ps)), (1, vf), (7, iv .i64 ps.length), (8, iv .i64 s.1.1)], HR ++ s.1.2.1⟩) (fun s => ps.length - s.1.1) ⟨(0, H, r), by simpa using h, Nat.zero_le _, by cases r <;> simp [idxV], fun l ob hl hm => ?_⟩ ?_ (fun s => ?_))
  · obtain ⟨ob', ho⟩ := get_some_of (a := HR) hm
    rw [hR l ob' ho] at hl
    cases hl
  · exact le_same (.cons rfl rfl (.cons rfl rfl (.cons rfl rfl (.cons rfl rfl .nil))))
  obtain ⟨⟨i, H1, r1⟩, hA, hi0, hr1, hdisj⟩ := s
  simp only at hA hi0 hr1 hdisj ⊢
  refine yR ?_
  refine yI ?_
  refine e_seq ?_
  refine Tri.seq (Tri.cond rfl (fun hb => Tri.skip ?_) (fun hb => Tri.exit ?_))
  · have hi : i < ps.length := by simpa using hb
    obtain ⟨p, hp⟩ : ∃ p, ps[i]? = some p := ⟨ps[i], by simp [hi]⟩
    have hdr : ps.drop i = p :: ps.drop (i + 1) := by
      rw [List.drop_eq_getElem_cons hi]
      simp only [List.getElem?_eq_getElem hi, Option.some.injEq] at hp
      rw [hp]
    rw [hdr] at hA
    have hHR : ∀ l ob, get HR l = some ob → ∃ ob1, get (HR ++ H1) l = some ob1 ∧ ObImp Tryz.prog ob1 ob := fun l ob hl => ⟨ob, by rw [get_append, hl]; rfl, ObImp.refl _⟩
    have hH1 : ∀ l ob, get H1 l = some ob → l ∉ keysOf HR ∧ ∃ ob1, get (HR ++ H1) l = some ob1 ∧ ObImp Tryz.prog ob1 ob := fun l ob hl => by
      refine ⟨hdisj l ob hl, ob, ?_, ObImp.refl _⟩
      rw [get_append]
      cases hg : get HR l with
      | some o => exact absurd (get_keys hg) (hdisj l ob hl)
      | none => simpa using hl
    have hnt2 : (first ++ [PV.pu p] ++ captured).any isTup = false := by
      simp only [List.any_append, Bool.or_eq_false_iff] at hna ⊢
      exact ⟨⟨hna.1, by simp [isTup]⟩, hna.2⟩
    refine Tri.seq (Tri.block ?_)
    refine yR ?_
    refine yM ?_
    refine yA ?_
    refine e_seq ?_
    cases hA with
    | hit hc hd =>
      refine yR ?_
      refine s_val (v_move SS (h := Ev.mk rfl hst)) ?_
      refine yM ?_
      refine yM ?_
      refine s_val (v_index SS (h0 := by omega) (hp := hp)) ?_
      refine yL ?_
      refine step_call (vf := vf) (first := first) (captured := captured) (vs := [.pu p]) (HR := HR) (H := H1) (news := []) rfl hst hvf hent (.cons (.mk rfl .pu) .nil) rfl (VImps.refl _) hnt2 hHR hH1 hc rfl ?_
      refine e_seq ?_
      repeat refine Tri.seq ?_
      refine Tri.condT rfl ?_
      refine yR ?_
      refine yM ?_
      refine yA ?_
      refine e_seq ?_
      refine Tri.ret ⟨.inr rfl, _, Ghost.refl _, ret1 rfl resV_tmp (iv_imp ?_), fun l ob hl => ⟨ob, ?_, ObImp.refl _⟩⟩
      · rw [hr1]
        simp
      · rw [get_append, hl]; rfl
    | next hc hd t =>
      rename_i H2 r2
      refine yR ?_
      refine s_val (v_move SS (h := Ev.mk rfl hst)) ?_
      refine yM ?_
      refine yM ?_
      refine s_val (v_index SS (h0 := by omega) (hp := hp)) ?_
      refine yL ?_
      refine step_call (vf := vf) (first := first) (captured := captured) (vs := [.pu p]) (HR := HR) (H := H1) (news := []) rfl hst hvf hent (.cons (.mk rfl .pu) .nil) rfl (VImps.refl _) hnt2 hHR hH1 hc rfl ?_
      refine e_seq ?_
      repeat refine Tri.seq ?_
      refine Tri.condF rfl ?_
      refine Tri.skip ?_
      refine yR ?_
      refine yI ?_
      refine yM ?_
      refine e_seq ?_
      refine ⟨⟨(i + 1, H2, r2), t, hi, ?_, fun l ob hl hm => ?_⟩, by simp; omega, le_call hd (.cons rfl rfl (.cons rfl rfl (.cons rfl rfl (.cons rfl ?_ .nil))))⟩
      · rw [hr1]
        cases r2 with
        | none => rfl
        | some j => exact congrArg (fun n : Nat => (n : Int)) (show i + (j + 1) = i + 1 + j by omega)
      · obtain ⟨ob', ho⟩ := get_some_of (a := HR) hm
        rw [disjB_none hd hl] at ho
        cases ho
      · rw [wrap64 (by omega) (by omega)]
        rfl
  · have hi : i = ps.length := by
      have : ps.length ≤ i := by simpa using hb
      omega
    subst hi
    rw [List.drop_length] at hA
    cases hA
    refine yR ?_
    refine yB ?_
    refine e_seq ?_
    refine Tri.ret ⟨.inr rfl, _, Ghost.refl _, ret1 rfl resV_tmp (iv_imp (by rw [hr1])), fun l ob hl => ⟨ob, ?_, ObImp.refl _⟩⟩
    rw [get_append]
    cases hg : get HR l with
    | some o => exact absurd (get_keys hg) (hdisj l ob hl)
    | none => simpa using hl

theorem conKt_c {vf : PV} {f : FuncId} {first captured : List PV} {HR : List (Nat × Ob)} (hvf : fnV vf = some (f, first, captured)) (hst : Str vf vf) (hnt : isTup vf = false) (hent : entersB Tryz.prog f = true) (hna : (first ++ captured).any isTup = false)
    (hfree : ∀ l ob, get HR l = some ob → freeOb ob = true) {ps : List Pu} (hlen : ps.length < 4611686018427387904) {H H' : List (Nat × Ob)} {r : Option Nat} (hd0 : disjB HR H' = true) (hd1 : disjB HR H = true) (hk : ∀ l ob, get H l = some ob → ∃ ob', get H' l = some ob')
    (h : AnyC Tryz.prog G f first captured HR ps H r H') : HCall Tryz.prog G 79 [.pu (.sl lo 116 ps), vf] HR H (bv r.isSome) H' [] := by
  refine HCall.of_tri tbl (n := 9) (L := keysOf H' ++ heapLabs H') Tryz.func79 rfl rfl hfree (fun l ob hl => disjB_none hd0 hl) (fun l hl => by simp [PV.labs] at hl) (fun l ob hl => keys_mem hl) hk ?_
  rintro ⟨w0, n', M, G', L, R, ρ0, D0, ro⟩ hn hG hL hR' hro
  simp only at hn hG hL hR' hro
  subst hn hG hL hR' hro
  have hHR : ∀ l ob, get HR l = some ob → ∃ ob1, get (HR ++ H) l = some ob1 ∧ ObImp Tryz.prog ob1 ob := fun l ob hl => ⟨ob, by rw [get_append, hl]; rfl, ObImp.refl _⟩
  have hH1 : ∀ l ob, get H l = some ob → l ∉ keysOf HR ∧ ∃ ob1, get (HR ++ H) l = some ob1 ∧ ObImp Tryz.prog ob1 ob := fun l ob hl => by
    have hz := disjB_none hd1 hl
    refine ⟨fun hm => ?_, ob, ?_, ObImp.refl _⟩
    · obtain ⟨ob', ho⟩ := get_some_of (a := HR) hm
      rw [hz] at ho; cases ho
    · rw [get_append, hz]; simpa using hl
  refine yR ?_
  refine yB ?_
  refine e_seq ?_
  refine yR ?_
  refine yM ?_
  refine s_val (v_move SS (h := Ev.mk rfl hst)) ?_
  refine step_call (vf := .pu (.leaf (.func (.func 142) #[] #[]))) (first := []) (captured := []) (vs := [.pu (.sl lo 116 ps), vf]) (HR := HR) (H := H) (news := []) rfl .pu rfl (by kernel_rfl) (.cons (.mk rfl .pu) (.cons (.mk rfl hst) .nil)) (by rw [List.any_cons, List.any_cons, hnt]; rfl) (VImps.refl _) (by rw [List.nil_append, List.append_nil, List.any_cons, List.any_cons, hnt]; rfl) hHR hH1 (idxKt_c hvf hst hnt hent hna hfree hlen hd0 hk (fun l ob hl => disjB_none' hd1 hl) h) rfl ?_
  refine yI ?_
  refine yA ?_
  refine e_seq ?_
  refine Tri.ret ⟨.inr rfl, _, Ghost.refl _, ret1 rfl resV_tmp (bv_imp ?_), fun l ob hl => ⟨ob, by rw [get_append, hl]; rfl, ObImp.refl _⟩⟩
  cases r with
  | none => simp [idxV]
  | some j => simp [idxV]

theorem conKt_d (vf : PV) {f : FuncId} {first captured : List PV} {HR : List (Nat × Ob)} {ps : List Pu} (hlen : ps.length < 4611686018427387904) {H H' : List (Nat × Ob)} {r : Option Nat} (h : AnyC Tryz.prog G f first captured HR ps H r H')
    (hvf : fnV vf = some (f, first, captured) := by rfl) (hst : Str vf vf := by repeat constructor) (hnt : isTup vf = false := by rfl) (hent : entersB Tryz.prog f = true := by kernel_rfl) (hna : (first ++ captured).any isTup = false := by rfl)
    (hfree : HR.all (fun q => freeOb q.2) = true := by rfl) (hd0 : disjB HR H' = true := by rfl) (hd1 : disjB HR H = true := by rfl) (hk : ((keysOf H).all fun l => (keysOf H').contains l) = true := by rfl) :
    HCall Tryz.prog G 79 [.pu (.sl lo 116 ps), vf] HR H (bv r.isSome) H' [] :=
  conKt_c hvf hst hnt hent hna (fun l ob hl => List.all_eq_true.1 hfree _ (get_mem hl)) hlen hd0 hd1 (fun l ob hl => get_some_of (by simpa [keysOf] using List.all_eq_true.1 hk l (get_keys hl))) h


end
variable {G : List (Nat × TypeId × Pu)}
theorem lgreat1_c (x : KT) (hN : tsize x.2 < 2^40) : FCall Tryz.prog G 82 [.pu (ktP x)] (bv (greatM x.2)) := by
  refine FCall.of_tri tbl 6 Tryz.func82 rfl rfl rfl fun w0 M ρ0 D0 => ?_
  refine yR ?_
  refine s_box SS 1 ?_
  refine yB ?_
  refine e_seqN [1] ?_
  refine yR ?_
  refine yF ?_
  refine yL ?_
  refine s_val (v_callD (fun _ => great_c x.2 hN)) ?_
  refine yA ?_
  refine e_seq ?_
  repeat refine Tri.seq ?_
  exact Tri.ret ⟨.inr rfl, ret1 rfl resV_tmp (VImp.refl _)⟩

def wgreatM (ts : List KT) (t : Tm) : Bool := decide ((ts.length : Int) > 45) || greatM t || ts.any (fun x => greatM x.2)
theorem wgreat_ok {ts : List KT} {t : Tm} (h : wgreatM ts t = false) : ts.length ≤ 45 ∧ tsize t ≤ 400 ∧ ∀ x ∈ ts, tsize x.2 ≤ 400 := by
  simp only [wgreatM, Bool.or_eq_false_iff, decide_eq_false_iff_not, List.any_eq_false] at h
  exact ⟨by omega, great_size h.1.2, fun x hx => great_size (by simpa using h.2 x hx)⟩
theorem lgreat_c (a b : Pu) (ts : List KT) (t : Tm) (hl : ts.length < 2^40) (hts : ∀ x ∈ ts, tsize x.2 < 2^40) (hN : tsize t < 2^40) : FCall Tryz.prog G 12 [.pu (wdP a b ts), .pu (tmc 0 t)] (bv (wgreatM ts t)) := by
  have hA : ∃ r : Option Nat, r.isSome = ts.any (fun x => greatM x.2) ∧ AnyC Tryz.prog G 82 [] [] [] (ts.map ktP) [] r [] := by
    have := AnyC.state (P := Tryz.prog) (G := G) (f := 82) (first := []) (captured := []) (HR := []) ktP (fun c a => (greatM a.2, c)) (fun _ => []) (fun _ => True) (fun _ => rfl) ts (fun a ha c _ => ⟨lgreat1_c a (hts a ha), fun _ => trivial⟩) 0 trivial
    rw [anyS_pure (fun a : KT => greatM a.2)] at this
    obtain ⟨r, h1, h2⟩ := this
    exact ⟨r, h1, h2⟩
  obtain ⟨r, hr, hA⟩ := hA
  refine FCall.of_tri tbl 18 Tryz.func12 rfl rfl rfl fun w0 M ρ0 D0 => ?_
  refine yR ?_
  refine s_box SS 2 ?_
  refine s_box SS 3 ?_
  refine yB ?_
  refine e_seqN [2, 3] ?_
  refine yR ?_
  refine yF ?_
  refine yK ?_
  refine yC ?_
  refine yI ?_
  refine yM ?_
  refine xL ?_
  refine s_gg zG (v_callD (fun _ => great_c t hN)) ?_
  refine yO ?_
  refine yM ?_
  refine xF ?_
  refine xL ?_
  refine s_gg zG (v_callD (fun _ => conKt_d (lo := 0) (fV 82) (by rw [List.length_map]; omega) hA)) ?_
  refine yO ?_
  refine yA ?_
  refine e_seq ?_
  repeat refine Tri.seq ?_
  exact Tri.ret ⟨.inr rfl, ret1 rfl resV_tmp (bv_imp (by rw [hr, List.length_map]; rfl))⟩

abbrev kdN : Pu := .sl 0 130 []
abbrev kaN : Pu := .sl 0 136 []
theorem ktc_low {m : Nat} (x : KT) : True := trivial
theorem ownWorld_c (ts : List KT) (hl : ts.length < 2^30) (hts : ∀ x ∈ ts, tsize x.2 < 2^30) : FCall Tryz.prog G 14 [.pu (wdP kdN kaN ts)] (.pu (wdP kdN kaN ts)) := by
  refine FCall.of_tri tbl 68 Tryz.func14 rfl rfl rfl fun w0 M ρ0 D0 => ?_
  refine yR ?_
  refine s_box SS 1 ?_
  refine s_alloc SS 2 ?_
  refine e_seqN [1, 2] ?_
  refine yR ?_
  refine s_alloc SS 3 ?_
  refine e_seqN [3] ?_
  refine yR ?_
  refine yF ?_
  refine yK ?_
  refine yC ?_
  refine yJ ?_
  refine e_seq ?_
  repeat refine Tri.seq ?_
  refine Tri.block (Tri.loopW (σ := Nat) (fun i => ⟨[(1, .ptr 1 [] 26), (2, .ptr 2 [] 26), (3, .ptr 3 [] 26), (11, .pu (.sl 0 130 [])), (12, iv .i64 0), (13, iv .i64 0)], [(1, .var 26 (.pu (wdP kdN kaN ts))), (2, .var 26 (.agg 26 [.nilc, .nilc, .nilc])), (3, .var 26 (.agg 26 [.nilc, .nilc, .nilc]))]⟩) (fun i => 1) 0 ?_ ?_ (fun i => ?_))
  · exact zW
  · exact zW
  refine yR ?_
  refine yI ?_
  refine e_seq ?_
  repeat refine Tri.seq ?_
  refine Tri.cond rfl (fun h0 => ?_) (fun h0 => ?_)
  · exfalso; simp at h0
  · skip
    refine Tri.exit ?_
    refine yR ?_
    refine yF ?_
    refine yK ?_
    refine yC ?_
    refine yJ ?_
    refine e_seq ?_
    repeat refine Tri.seq ?_
    refine Tri.block (Tri.loopW (σ := Nat) (fun i => ⟨[(1, .ptr 1 [] 26), (2, .ptr 2 [] 26), (3, .ptr 3 [] 26), (30, .pu (.sl 0 136 [])), (31, iv .i64 0), (32, iv .i64 0)], [(1, .var 26 (.pu (wdP kdN kaN ts))), (2, .var 26 (.agg 26 [.nilc, .nilc, .nilc])), (3, .var 26 (.agg 26 [.nilc, .nilc, .nilc]))]⟩) (fun i => 1) 0 ?_ ?_ (fun i => ?_))
    · exact zW
    · exact zW
    refine yR ?_
    refine yI ?_
    refine e_seq ?_
    repeat refine Tri.seq ?_
    refine Tri.cond rfl (fun h1 => ?_) (fun h1 => ?_)
    · exfalso; simp at h1
    · skip
      refine Tri.exit ?_
      refine yR ?_
      refine yF ?_
      refine yK ?_
      refine yC ?_
      refine yJ ?_
      refine e_seq ?_
      repeat refine Tri.seq ?_
      refine Tri.block (Tri.loopW (σ := Nat) (fun i => ⟨[(1, .ptr 1 [] 26), (2, .ptr 2 [] 26), (3, .ptr 3 [] 26), (49, .pu (.sl 0 116 (ts.map ktP))), (50, iv .i64 (ts.map ktP).length), (51, iv .i64 i)], [(2, .var 26 (.agg 26 [.nilc, .nilc, .nilc])), (3, .var 26 (.agg 26 [.nilc, .nilc, .ow 0 116 ((ts.take i).map ktP)]))]⟩) (fun i => ts.length - i) 0 ?_ ?_ (fun i => ?_))
      · repeat (first | exact .nil | refine .cons rfl (by first | exact .refl | (focus ((repeat constructor); done)) | (exact .var (.agg (.cons .refl (.cons .refl (.cons .nilcOw .nil)))))) ?_)
      · repeat (first | exact .nil | refine .cons rfl (by first | exact .refl | (focus ((repeat constructor); done)) | (exact .var (.agg (.cons .refl (.cons .refl (.cons .nilcOw .nil)))))) ?_)
      refine yR ?_
      refine yI ?_
      refine e_seq ?_
      repeat refine Tri.seq ?_
      refine Tri.cond rfl (fun h2 => ?_) (fun h2 => ?_)
      · skip
        have hi : i < ts.length := by simpa using h2
        have hmap : (ts.take (i + 1)).map ktP = (ts.take i).map ktP ++ [ktP ts[i]] := by rw [List.take_succ_eq_append_getElem hi, List.map_append]; rfl
        refine Tri.skip ?_
        repeat refine Tri.seq ?_
        refine Tri.block ?_
        refine yR ?_
        refine s_val (v_index SS (h0 := by omega) (hp := kt_get hi)) ?_
        refine yL ?_
        refine s_alloc SS 9 ?_
        refine yS ?_
        refine e_seqN [9] ?_
        refine yR ?_
        refine yF ?_
        refine yK ?_
        refine yF ?_
        refine yL ?_
        refine yF ?_
        refine yL ?_
        refine s_val (v_callD (fun _ => kitOwnTerm_c _ ts[i].2 (Nat.le_refl _) (hts _ (List.getElem_mem hi)))) ?_
        refine yP ?_
        refine yZ ?_
        refine s_app2 3 [2] ?_ ?_
        · simp; omega
        refine yF ?_
        refine yW ?_
        refine e_draw ?_
        refine yR ?_
        refine yI ?_
        refine yM ?_
        refine e_seq ?_
        refine ⟨i + 1, by omega, le_of ?_ ?_⟩
        · repeat (first | exact SubE.nil | refine SubE.cons rfl (by first | rfl | (rw [wrap64 (by omega) (by omega)]; rfl) | (rw [hmap]; rfl)) ?_)
        · repeat (first | exact SubH.nil | refine SubH.cons rfl (by first | rfl | (rw [wrap64 (by omega) (by omega)]; rfl) | (rw [hmap]; rfl)) ?_)
      · skip
        have hi : ts.length ≤ i := by simpa using h2
        rw [List.take_of_length_le hi]
        refine Tri.exit ?_
        refine yR ?_
        refine yL ?_
        refine yS ?_
        refine e_seq ?_
        repeat refine Tri.seq ?_
        exact Tri.ret ⟨.inr rfl, ret1 rfl resV_cell (ToPu.imp (by repeat constructor))⟩
end Go.Proofs.YtkcgkignhpepkaaGreatDoor

/- Worlds that are the same. -/
namespace Go.Proofs.YtkcgkignhpepkaaGreatDoor
open Go Hs
variable {G : List (Nat × TypeId × Pu)}

theorem eqfKd_c (f : FuncId) : FCall Tryz.prog G 100 [.pu kdN, .pu kdN, fV f] (bv true) := by
  refine FCall.of_tri tbl 32 Tryz.func100 rfl rfl rfl fun w0 M ρ0 D0 => ?_
  refine yR ?_
  refine yB ?_
  refine e_seq ?_
  refine yR ?_
  refine yM ?_
  refine yC ?_
  refine yM ?_
  refine yC ?_
  refine yI ?_
  refine e_seq ?_
  repeat refine Tri.seq ?_
  refine Tri.cond rfl (fun h0 => ?_) (fun h0 => ?_)
  · exfalso; simp at h0
  · skip
    refine Tri.skip ?_
    refine yR ?_
    refine yM ?_
    refine yC ?_
    refine yJ ?_
    refine e_seq ?_
    repeat refine Tri.seq ?_
    refine Tri.block (Tri.loopW (σ := Nat) (fun i => ⟨[(15, .pu kdN), (16, iv .i64 0), (17, iv .i64 0)], []⟩) (fun i => 1) 0 ?_ ?_ (fun i => ?_))
    · exact zW
    · exact zW
    refine yR ?_
    refine yI ?_
    refine e_seq ?_
    repeat refine Tri.seq ?_
    refine Tri.cond rfl (fun h1 => ?_) (fun h1 => ?_)
    · exfalso; simp at h1
    · skip
      refine Tri.exit ?_
      refine yR ?_
      refine yB ?_
      refine e_seq ?_
      repeat refine Tri.seq ?_
      exact Tri.ret ⟨.inr rfl, ret1 rfl resV_tmp (ToPu.imp (by repeat constructor))⟩

theorem eqfKa_c (f : FuncId) : FCall Tryz.prog G 103 [.pu kaN, .pu kaN, fV f] (bv true) := by
  refine FCall.of_tri tbl 32 Tryz.func103 rfl rfl rfl fun w0 M ρ0 D0 => ?_
  refine yR ?_
  refine yB ?_
  refine e_seq ?_
  refine yR ?_
  refine yM ?_
  refine yC ?_
  refine yM ?_
  refine yC ?_
  refine yI ?_
  refine e_seq ?_
  repeat refine Tri.seq ?_
  refine Tri.cond rfl (fun h0 => ?_) (fun h0 => ?_)
  · exfalso; simp at h0
  · skip
    refine Tri.skip ?_
    refine yR ?_
    refine yM ?_
    refine yC ?_
    refine yJ ?_
    refine e_seq ?_
    repeat refine Tri.seq ?_
    refine Tri.block (Tri.loopW (σ := Nat) (fun i => ⟨[(15, .pu kaN), (16, iv .i64 0), (17, iv .i64 0)], []⟩) (fun i => 1) 0 ?_ ?_ (fun i => ?_))
    · exact zW
    · exact zW
    refine yR ?_
    refine yI ?_
    refine e_seq ?_
    repeat refine Tri.seq ?_
    refine Tri.cond rfl (fun h1 => ?_) (fun h1 => ?_)
    · exfalso; simp at h1
    · skip
      refine Tri.exit ?_
      refine yR ?_
      refine yB ?_
      refine e_seq ?_
      repeat refine Tri.seq ?_
      exact Tri.ret ⟨.inr rfl, ret1 rfl resV_tmp (ToPu.imp (by repeat constructor))⟩

theorem eqfKt_c (f : FuncId) (he : entersB Tryz.prog f = true) (φ : KT → KT → Bool) (l m : List KT) (hl : l.length < 2^40) (hm : m.length < 2^40) (h : ∀ i (h1 : i < l.length) (h2 : i < m.length), FCall Tryz.prog G f [.pu (ktP l[i]), .pu (ktP m[i])] (bv (φ l[i] m[i]))) :
    FCall Tryz.prog G 106 [.pu (.sl 0 116 (l.map ktP)), .pu (.sl 0 116 (m.map ktP)), fV f] (bv (eqLM φ l m)) := by
  refine FCall.of_tri tbl 32 Tryz.func106 rfl rfl rfl fun w0 M ρ0 D0 => ?_
  refine yR ?_
  refine yB ?_
  refine e_seq ?_
  refine yR ?_
  refine yM ?_
  refine yC ?_
  refine yM ?_
  refine yC ?_
  refine yI ?_
  refine e_seq ?_
  repeat refine Tri.seq ?_
  refine Tri.cond rfl (fun h0 => ?_) (fun h0 => ?_)
  · skip
    have hf : eqLM φ l m = false := eqLM_len (by simp at h0; omega)
    refine yR ?_
    refine yB ?_
    refine e_seq ?_
    repeat refine Tri.seq ?_
    exact Tri.ret ⟨.inr rfl, ret1 rfl resV_tmp (bv_imp hf.symm)⟩
  · skip
    have hlm : l.length = m.length := by simp at h0; omega
    refine Tri.skip ?_
    refine yR ?_
    refine yM ?_
    refine yC ?_
    refine yJ ?_
    refine e_seq ?_
    repeat refine Tri.seq ?_
    refine Tri.block (Tri.loopW (σ := {i : Nat // eqLM φ (l.take i) (m.take i) = true}) (fun i => ⟨[(1, .pu (.sl 0 116 (m.map ktP))), (2, fV f), (15, .pu (.sl 0 116 (l.map ktP))), (16, iv .i64 (l.map ktP).length), (17, iv .i64 i.1)], []⟩) (fun i => l.length - i.1) ⟨0, by simp [eqLM]⟩ ?_ ?_ (fun i => ?_))
    · exact zW
    · exact zW
    refine yR ?_
    refine yI ?_
    refine e_seq ?_
    repeat refine Tri.seq ?_
    refine Tri.cond rfl (fun h1 => ?_) (fun h1 => ?_)
    · skip
      have hi : i.1 < l.length := by simpa using h1
      have hi2 : i.1 < m.length := by omega
      have htk := eqLM_take (φ := φ) hi hi2
      rw [i.2, Bool.true_and] at htk
      refine Tri.skip ?_
      repeat refine Tri.seq ?_
      refine Tri.block ?_
      refine yR ?_
      refine yM ?_
      refine s_val (v_index SS (h0 := by omega) (hp := kt_get hi)) ?_
      refine yL ?_
      refine s_alloc SS 8 ?_
      refine yA ?_
      refine yS ?_
      refine e_seqN [8] ?_
      refine yR ?_
      refine yM ?_
      refine yM ?_
      refine s_val (v_index SS (h0 := by omega) (hp := kt_get hi2)) ?_
      refine yL ?_
      refine s_alloc SS 9 ?_
      refine yS ?_
      refine e_seqN [9] ?_
      refine yR ?_
      refine yM ?_
      refine yL ?_
      refine yL ?_
      refine s_val (v_callO (fun _ => h i.1 hi hi2) (he := he)) ?_
      refine yQ ?_
      refine e_seq ?_
      repeat refine Tri.seq ?_
      refine Tri.cond rfl (fun h2 => ?_) (fun h2 => ?_)
      · skip
        have hf : eqLM φ l m = false := eqLM_stop (i := i.1 + 1) (by rw [htk]; simpa using h2)
        refine yR ?_
        refine yB ?_
        refine e_seq ?_
        repeat refine Tri.seq ?_
        exact Tri.ret ⟨.inr rfl, ret1 rfl resV_tmp (bv_imp hf.symm)⟩
      · skip
        have hnext : eqLM φ (l.take (i.1 + 1)) (m.take (i.1 + 1)) = true := by rw [htk]; simpa using h2
        refine Tri.skip ?_
        refine yR ?_
        refine yI ?_
        refine yM ?_
        refine e_seq ?_
        refine ⟨⟨i.1 + 1, hnext⟩, by show l.length - (i.1 + 1) < l.length - i.1; omega, le_of ?_ ?_⟩
        · exact zE
        · exact zH
    · skip
      have hf : eqLM φ l m = true := by
        have := i.2
        rwa [List.take_of_length_le (by simp at h1; omega), List.take_of_length_le (by simp at h1; omega)] at this
      refine Tri.exit ?_
      refine yR ?_
      refine yB ?_
      refine e_seq ?_
      repeat refine Tri.seq ?_
      exact Tri.ret ⟨.inr rfl, ret1 rfl resV_tmp (bv_imp hf.symm)⟩

def sameK (x y : KT) : Bool := x.1 == y.1 && sameT x.2 y.2
theorem kt_wf {D : Nat → Nat → Prop} {w : World} {x : KT} {v : List Value} (h : PR Tryz.prog D w (ktP x) v) : x.1.length = 32 := by
  obtain ⟨_, h⟩ := PR_agg h
  obtain ⟨⟨_, h⟩, _⟩ := PRs_cons h
  exact ref_len h
theorem sameK_c (x y : KT) (hx : tsize x.2 < 2^40) (hy : tsize y.2 < 2^40) : FCall Tryz.prog G 107 [.pu (ktP x), .pu (ktP y)] (bv (sameK x y)) := by
  refine FCall.of_tri tbl 17 Tryz.func107 rfl rfl rfl fun w0 M ρ0 D0 => ?_
  refine Tri.fact (i := 0) rfl (fun D w x h => kt_wf h) (fun hr => ?_)
  refine Tri.fact (i := 1) rfl (fun D w x h => kt_wf h) (fun hr' => ?_)
  refine yR ?_
  refine s_box SS 2 ?_
  refine s_box SS 3 ?_
  refine yB ?_
  refine e_seqN [2, 3] ?_
  refine yR ?_
  refine yF ?_
  refine yL ?_
  refine yF ?_
  refine yL ?_
  refine s_val (v_bin SS (h := bin_eqS (hr.trans hr'.symm))) ?_
  refine yM ?_
  refine xF ?_
  refine xL ?_
  refine xF ?_
  refine xL ?_
  refine s_gg zG (v_callD (fun _ => sameT_c _ x.2 y.2 (Nat.le_refl _) hx hy)) ?_
  refine yN ?_
  refine yA ?_
  refine e_seq ?_
  repeat refine Tri.seq ?_
  exact Tri.ret ⟨.inr rfl, ret1 rfl resV_tmp (VImp.refl _)⟩

theorem eqLM_refl {α : Type} {φ : α → α → Bool} : ∀ {l : List α}, (∀ a ∈ l, φ a a = true) → eqLM φ l l = true
  | [], _ => rfl
  | a :: l, h => by simp only [eqLM, h a (by simp), Bool.true_and]; exact eqLM_refl fun x hx => h x (by simp [hx])
def sameW (ts us : List KT) : Bool := eqLM sameK ts us
theorem sameW_c (ts us : List KT) (hl : ts.length < 2^40) (hm : us.length < 2^40) (hts : ∀ x ∈ ts, tsize x.2 < 2^40) (hus : ∀ x ∈ us, tsize x.2 < 2^40) : FCall Tryz.prog G 24 [.pu (wdP kdN kaN ts), .pu (wdP kdN kaN us)] (bv (sameW ts us)) := by
  refine FCall.of_tri tbl 24 Tryz.func24 rfl rfl rfl fun w0 M ρ0 D0 => ?_
  refine yR ?_
  refine s_box SS 2 ?_
  refine s_box SS 3 ?_
  refine yB ?_
  refine e_seqN [2, 3] ?_
  refine yR ?_
  refine yF ?_
  refine yK ?_
  refine yF ?_
  refine yK ?_
  refine s_val (v_callD (fun _ => eqfKd_c 101)) ?_
  refine yM ?_
  refine xF ?_
  refine xL ?_
  refine xF ?_
  refine xL ?_
  refine s_gg zG (v_callD (fun _ => eqfKa_c 104)) ?_
  refine yN ?_
  refine yM ?_
  refine xF ?_
  refine xL ?_
  refine xF ?_
  refine xL ?_
  refine s_gg zG (v_callD (fun _ => eqfKt_c 107 (by kernel_rfl) sameK ts us hl hm (fun i h1 h2 => sameK_c _ _ (hts _ (List.getElem_mem h1)) (hus _ (List.getElem_mem h2))))) ?_
  refine yN ?_
  refine yA ?_
  refine e_seq ?_
  repeat refine Tri.seq ?_
  exact Tri.ret ⟨.inr rfl, ret1 rfl resV_tmp (VImp.refl _)⟩
end Go.Proofs.YtkcgkignhpepkaaGreatDoor

/- StepChecks: the walk. -/
namespace Go.Proofs.YtkcgkignhpepkaaGreatDoor
open Go Hs

theorem bin_eqB (x y : Bool) : binV Tryz.prog .eql 4 (bv x) (bv y) = some (bv (x == y)) := by
  have hb : Tryz.prog.underlying 4 = some .bool := by kernel_rfl
  simp [binV, hb]
theorem eqPath_refl (l : List Nat) : eqLM (fun a b : Nat => (a : Int) == (b : Int)) l l = true := eqLM_refl fun a _ => by simp
theorem sameW_refl (ts : List KT) : sameW ts ts = true := eqLM_refl fun x _ => by simp [sameK, sameT_refl]

set_option maxHeartbeats 4000000 in
theorem stepChecks_c (a b : Pu) (ts : List KT) (t : Tm) (hl : ts.length < 2^40) (hts : ∀ x ∈ ts, tsize x.2 < 2^40) (hN : tsize t < 2^40) (hrg : rgT t) :
    FCall Tryz.prog gA 3 [.pu (wdP a b ts), .pu (tmc 0 t)] (bv true) := by
  refine FCall.of_tri tbl 83 Tryz.func3 rfl rfl rfl fun w0 M ρ0 D0 => ?_
  refine yR ?_
  refine s_box SS 2 ?_
  refine s_box SS 3 ?_
  refine yB ?_
  refine e_seqN [2, 3] ?_
  refine yR ?_
  refine yL ?_
  refine yL ?_
  refine s_val (v_callD (fun _ => lgreat_c a b ts t hl hts hN)) ?_
  refine e_seq ?_
  repeat refine Tri.seq ?_
  refine Tri.cond rfl (fun h0 => ?_) (fun h0 => ?_)
  · skip
    refine yR ?_
    refine s_val (v_callD (fun _ => awake_c)) ?_
    refine yA ?_
    refine e_seq ?_
    repeat refine Tri.seq ?_
    exact Tri.ret ⟨.inr rfl, ret1 rfl resV_tmp (VImp.refl _)⟩
  · skip
    obtain ⟨hl2, hN2, hts2⟩ := wgreat_ok h0
    have hpl := place_len t
    refine Tri.skip ?_
    refine yR ?_
    refine yF ?_
    refine yK ?_
    refine yP ?_
    refine s_val (v_callD (fun _ => ownWorld_c ts (by omega) (fun x hx => by have := hts2 x hx; omega))) ?_
    refine yL ?_
    refine s_val (v_callD (fun _ => kitOwnTerm_c _ t (Nat.le_refl _) (by omega))) ?_
    refine s_alloc SS 5 ?_
    refine s_alloc SS 6 ?_
    refine yS ?_
    refine yS ?_
    refine e_drawN [5, 6] ?_
    refine yR ?_
    refine yL ?_
    refine yL ?_
    refine s_val (v_callD (fun _ => r16check_c a b ts t hl hts hN)) ?_
    refine yA ?_
    refine e_seq ?_
    refine yR ?_
    refine yB ?_
    refine yB ?_
    refine e_seq ?_
    refine yR ?_
    refine yM ?_
    refine yI ?_
    refine e_seq ?_
    repeat refine Tri.seq ?_
    refine Tri.cond rfl (fun h1 => ?_) (fun h1 => ?_)
    · skip
      have h1' : stepCheckM ts t = 0 := by simpa using h1
      have hgd := check_gd (stepCheck_ok h1').2.2.2 hrg
      have hsn : stepNextM ts t = ((rnextM ts t).1, (rnextM ts t).2, 0) := by simp only [stepNextM, rnextM, if_pos h1']; split <;> rfl
      have hpl2 : (rnextM ts t).2.length ≤ tsize t := by unfold rnextM; split <;> simp; omega
      have hsc := stepNext_c (G := gA) kdN kaN ts t hts hN
      rw [hsn] at hsc
      refine yR ?_
      refine yL ?_
      refine yL ?_
      refine s_val (v_callD (fun _ => rnext_c a b ts hl t hgd (by omega))) ?_
      refine yM ?_
      refine yX ?_
      refine yX ?_
      refine yA ?_
      refine yA ?_
      refine e_seq ?_
      refine yR ?_
      refine yL ?_
      refine yL ?_
      refine s_val (v_callD (fun _ => hsc)) ?_
      refine yM ?_
      refine yX ?_
      refine yX ?_
      refine yX ?_
      refine yA ?_
      refine yA ?_
      refine yA ?_
      refine e_seq ?_
      refine yR ?_
      refine yL ?_
      refine yL ?_
      refine s_val (v_callD (fun _ => stepCheck_c kdN kaN ts t hts hN)) ?_
      refine yM ?_
      refine yI ?_
      refine yM ?_
      refine xM ?_
      refine xM ?_
      refine xI ?_
      refine yN ?_
      refine yM ?_
      refine xM ?_
      refine xM ?_
      refine xI ?_
      refine yN ?_
      refine yM ?_
      refine xM ?_
      refine xM ?_
      first | (refine s_gg zG (v_callD (fun _ => eqPath_c (rnextM ts t).2 (rnextM ts t).2 (by omega) (by omega))) ?_) | (refine s_gg zG (v_callD (fun _ => eqPath_c [] [] (by simp) (by simp))) ?_)
      refine yN ?_
      refine yM ?_
      refine xL ?_
      refine s_gg zG (v_callD (fun _ => value_c _ t (Nat.le_refl _) hN)) ?_
      refine xL ?_
      refine s_gg zG (v_callD (fun _ => rvalue_c _ t (Nat.le_refl _) hN)) ?_
      refine s_gg zG (v_bin SS (h := bin_eqB _ _)) ?_
      refine yN ?_
      refine yM ?_
      refine xL ?_
      refine xL ?_
      refine s_gg zG (v_callD (fun _ => sameT_c _ t t (Nat.le_refl _) hN hN)) ?_
      refine yN ?_
      refine yM ?_
      refine xL ?_
      refine xF ?_
      refine xL ?_
      refine xP ?_
      refine s_gg zG (v_callD (fun _ => sameW_c ts ts hl hl hts hts)) ?_
      refine yN ?_
      refine yM ?_
      refine s_gg zG (v_callD (fun _ => awake_c)) ?_
      refine yN ?_
      refine yA ?_
      refine e_draw ?_
      repeat refine Tri.seq ?_
      exact Tri.ret ⟨.inr rfl, ret1 rfl resV_tmp (bv_imp (by simp [sameT_refl, sameW_refl, eqPath_refl, h1']))⟩
    · skip
      have h1' : stepCheckM ts t ≠ 0 := by simpa using h1
      have hsn : stepNextM ts t = (0, [], stepCheckM ts t) := by simp only [stepNextM, if_neg h1']
      have hsc := stepNext_c (G := gA) kdN kaN ts t hts hN
      rw [hsn] at hsc
      refine Tri.skip ?_
      refine yR ?_
      refine yL ?_
      refine yL ?_
      refine s_val (v_callD (fun _ => hsc)) ?_
      refine yM ?_
      refine yX ?_
      refine yX ?_
      refine yX ?_
      refine yA ?_
      refine yA ?_
      refine yA ?_
      refine e_seq ?_
      refine yR ?_
      refine yL ?_
      refine yL ?_
      refine s_val (v_callD (fun _ => stepCheck_c kdN kaN ts t hts hN)) ?_
      refine yM ?_
      refine yI ?_
      refine yM ?_
      refine xM ?_
      refine xM ?_
      refine xI ?_
      refine yN ?_
      refine yM ?_
      refine xM ?_
      refine xM ?_
      refine xI ?_
      refine yN ?_
      refine yM ?_
      refine xM ?_
      refine xM ?_
      first | (refine s_gg zG (v_callD (fun _ => eqPath_c (rnextM ts t).2 (rnextM ts t).2 (by omega) (by omega))) ?_) | (refine s_gg zG (v_callD (fun _ => eqPath_c [] [] (by simp) (by simp))) ?_)
      refine yN ?_
      refine yM ?_
      refine xL ?_
      refine s_gg zG (v_callD (fun _ => value_c _ t (Nat.le_refl _) hN)) ?_
      refine xL ?_
      refine s_gg zG (v_callD (fun _ => rvalue_c _ t (Nat.le_refl _) hN)) ?_
      refine s_gg zG (v_bin SS (h := bin_eqB _ _)) ?_
      refine yN ?_
      refine yM ?_
      refine xL ?_
      refine xL ?_
      refine s_gg zG (v_callD (fun _ => sameT_c _ t t (Nat.le_refl _) hN hN)) ?_
      refine yN ?_
      refine yM ?_
      refine xL ?_
      refine xF ?_
      refine xL ?_
      refine xP ?_
      refine s_gg zG (v_callD (fun _ => sameW_c ts ts hl hl hts hts)) ?_
      refine yN ?_
      refine yM ?_
      refine s_gg zG (v_callD (fun _ => awake_c)) ?_
      refine yN ?_
      refine yA ?_
      refine e_draw ?_
      repeat refine Tri.seq ?_
      exact Tri.ret ⟨.inr rfl, ret1 rfl resV_tmp (bv_imp (by simp [sameT_refl, sameW_refl, eqPath_refl, h1']))⟩
end Go.Proofs.YtkcgkignhpepkaaGreatDoor

/- Terms, patterns and worlds out of what arguments read as. -/
namespace Go.Proofs.YtkcgkignhpepkaaGreatDoor
open Go Hs
variable {H : Type}

theorem bulk_one (d : DataW H) : 1 ≤ Rows.uptoBulk d := by
  cases d with
  | lit l => cases l <;> simp [Rows.uptoBulk]
  | _ => simp [Rows.uptoBulk]
theorem bulk_mem {d : DataW H} {l : List (DataW H)} (h : d ∈ l) : Rows.uptoBulk d ≤ Rows.uptoBulkAll l := by
  induction l with
  | nil => cases h
  | cons x r ih =>
    simp only [Rows.uptoBulkAll]
    cases List.mem_cons.1 h with
    | inl e => subst e; omega
    | inr e => have := ih e; omega
theorem bulk_sum {α : Type} (sz : α → Nat) (tot : List α → Nat) (h0 : tot [] = 0) (h1 : ∀ a l, tot (a :: l) = sz a + tot l) : ∀ {ds : List (DataW H)} {l : List α}, l.length = ds.length → (∀ (i : Nat) (d : DataW H) (a : α), ds[i]? = some d → l[i]? = some a → sz a ≤ Rows.uptoBulk d) → tot l ≤ Rows.uptoBulkAll ds
  | [], l, hl, _ => by
    have : l = [] := List.length_eq_zero_iff.1 hl
    subst this; rw [h0]; omega
  | d :: ds, [], hl, _ => by simp at hl
  | d :: ds, a :: l, hl, h => by
    have h2 := h 0 d a rfl rfl
    have h3 := bulk_sum sz tot h0 h1 (ds := ds) (l := l) (by simpa using hl) fun i d' a' hi hj => h (i + 1) d' a' (by simpa using hi) (by simpa using hj)
    rw [h1]
    simp only [Rows.uptoBulkAll]
    omega
theorem c_int : Tryz.prog.underlying 3 = some (.int .i64) := by kernel_rfl
theorem c_u8 : Tryz.prog.underlying 5 = some (.int .u8) := by kernel_rfl
theorem c_sum : comps Tryz.prog 28 = some (List.replicate 32 (1, 5)) := by kernel_rfl
theorem c_pat : comps Tryz.prog 104 = some [(1, 3), (1, 3), (32, 28), (1, 102)] := by kernel_rfl
theorem c_tm : comps Tryz.prog 32 = some [(1, 3), (1, 3), (32, 28), (1, 29), (1, 30)] := by kernel_rfl
theorem c_cs : comps Tryz.prog 106 = some [(Tryz.prog.cellsOf 104, 104), (Tryz.prog.cellsOf 32, 32)] := by kernel_rfl
theorem u_pats : Tryz.prog.underlying 102 = some (.slice 104) := by kernel_rfl
theorem u_tms : Tryz.prog.underlying 29 = some (.slice 32) := by kernel_rfl
theorem u_css : Tryz.prog.underlying 30 = some (.slice 106) := by kernel_rfl

theorem ht_sum {d : DataW H} {p : Pu} (h : HT Tryz.prog 28 d p) : ∃ r, p = refP r := by
  obtain ⟨ds, ps, rfl, rfl, hA⟩ := h.agg_inv c_sum
  clear h
  have h := hA
  clear hA
  rw [List.map_replicate] at h
  obtain ⟨l, rfl, _, _⟩ := HTs.all (α := Int) (enc := fun n => .leaf (.int .u8 n)) (φ := fun _ _ => True) h fun d _ p hp => by
    obtain ⟨n, _, rfl, _⟩ := hp.int_inv c_u8
    exact ⟨n, rfl, trivial⟩
  exact ⟨l, rfl⟩
theorem sl_bulk {ds sp : List (DataW H)} {d : DataW H} (h : d = .nil ∧ ds = [] ∨ d = .slice ds sp) : Rows.uptoBulkAll ds + 1 ≤ Rows.uptoBulk d := by
  rcases h with ⟨rfl, rfl⟩ | rfl
  · simp [Rows.uptoBulk, Rows.uptoBulkAll]
  · simp only [Rows.uptoBulk]; omega

theorem ht_pat : ∀ (N : Nat) (d : DataW H), Rows.uptoBulk d ≤ N → ∀ p, HT Tryz.prog 104 d p → ∃ q, p = patc 0 q ∧ psize q ≤ Rows.uptoBulk d
  | 0, d, hN, _, _ => by have := bulk_one d; omega
  | N + 1, d, hN, p, h => by
    obtain ⟨ds, ps, rfl, rfl, hA⟩ := h.agg_inv c_pat
    clear h
    have h := hA
    clear hA
    obtain ⟨d1, ds, p1, ps, rfl, rfl, h1, h⟩ := h.cons_inv
    obtain ⟨d2, ds, p2, ps, rfl, rfl, h2, h⟩ := h.cons_inv
    obtain ⟨d3, ds, p3, ps, rfl, rfl, h3, h⟩ := h.cons_inv
    obtain ⟨d4, ds, p4, ps, rfl, rfl, h4, h⟩ := h.cons_inv
    obtain ⟨rfl, rfl⟩ := h.nil_inv
    obtain ⟨k, rfl, rfl, _⟩ := h1.int_inv c_int
    obtain ⟨n, rfl, rfl, _⟩ := h2.int_inv c_int
    obtain ⟨r, rfl⟩ := ht_sum h3
    obtain ⟨es, sp, qs, he, rfl, hq⟩ := h4.sl_inv u_pats
    have hb := sl_bulk he
    simp only [Rows.uptoBulk, Rows.uptoBulkAll] at hN ⊢
    obtain ⟨l, rfl, hl, hφ⟩ := HTs.all (enc := patc 0) (φ := fun d q => psize q ≤ Rows.uptoBulk d) hq fun d hm p hp => ht_pat N d (by have := bulk_mem hm; omega) p hp
    have hs := bulk_sum psize psizeL rfl (fun _ _ => rfl) hl hφ
    exact ⟨.mk k n r l, by simp only [patc, pats_eq], by simp only [psize]; omega⟩

theorem rgK_of {l : List Tm} (h : ∀ t ∈ l, rgT t) : rgK l := by
  induction l with
  | nil => trivial
  | cons a l ih => exact ⟨h a (by simp), ih fun t ht => h t (by simp [ht])⟩
theorem rgC_of {l : List Cs} (h : ∀ t ∈ l, rgS t) : rgC l := by
  induction l with
  | nil => trivial
  | cons a l ih => exact ⟨h a (by simp), ih fun t ht => h t (by simp [ht])⟩
theorem mem_pair {α : Type} {ds : List (DataW H)} {l : List α} (hl : l.length = ds.length) {a : α} (h : a ∈ l) : ∃ (i : Nat) (d : DataW H), ds[i]? = some d ∧ l[i]? = some a := by
  obtain ⟨i, hi, rfl⟩ := List.getElem_of_mem h
  exact ⟨i, ds[i]'(by omega), List.getElem?_eq_getElem _, List.getElem?_eq_getElem _⟩
mutual
theorem ht_tm : ∀ (N : Nat) (d : DataW H), Rows.uptoBulk d ≤ N → ∀ p, HT Tryz.prog 32 d p → ∃ t, p = tmc 0 t ∧ tsize t ≤ Rows.uptoBulk d ∧ rgT t
  | 0, d, hN, _, _ => by have := bulk_one d; omega
  | N + 1, d, hN, p, h => by
    obtain ⟨ds, ps, rfl, rfl, hA⟩ := h.agg_inv c_tm
    clear h
    have h := hA
    clear hA
    obtain ⟨d1, ds, p1, ps, rfl, rfl, h1, h⟩ := h.cons_inv
    obtain ⟨d2, ds, p2, ps, rfl, rfl, h2, h⟩ := h.cons_inv
    obtain ⟨d3, ds, p3, ps, rfl, rfl, h3, h⟩ := h.cons_inv
    obtain ⟨d4, ds, p4, ps, rfl, rfl, h4, h⟩ := h.cons_inv
    obtain ⟨d5, ds, p5, ps, rfl, rfl, h5, h⟩ := h.cons_inv
    obtain ⟨rfl, rfl⟩ := h.nil_inv
    obtain ⟨k, rfl, rfl, _⟩ := h1.int_inv c_int
    obtain ⟨n, rfl, rfl, hn⟩ := h2.int_inv c_int
    obtain ⟨r, rfl⟩ := ht_sum h3
    obtain ⟨es, sp, qs, he, rfl, hq⟩ := h4.sl_inv u_tms
    obtain ⟨fs, sp', us, hf, rfl, hu⟩ := h5.sl_inv u_css
    have hb := sl_bulk he
    have hb' := sl_bulk hf
    simp only [Rows.uptoBulk, Rows.uptoBulkAll] at hN ⊢
    obtain ⟨l, rfl, hl, hφ⟩ := HTs.all (enc := tmc 0) (φ := fun d q => tsize q ≤ Rows.uptoBulk d ∧ rgT q) hq fun d hm p hp => ht_tm N d (by have := bulk_mem hm; omega) p hp
    obtain ⟨m, rfl, hm, hψ⟩ := HTs.all (enc := csec 0) (φ := fun d q => csize q ≤ Rows.uptoBulk d ∧ rgS q) hu fun d hm p hp => ht_cs N d (by have := bulk_mem hm; omega) p hp
    have hs := bulk_sum tsize tsizeL rfl (fun _ _ => rfl) hl fun i d a hi hj => (hφ i d a hi hj).1
    have hs' := bulk_sum csize csizeL rfl (fun _ _ => rfl) hm fun i d a hi hj => (hψ i d a hi hj).1
    refine ⟨.mk k n r l m, by simp only [tmc, tms_eq, css_eq], by simp only [tsize]; omega, ?_, rgK_of fun t ht => ?_, rgC_of fun t ht => ?_⟩
    · have hn' : -9223372036854775808 ≤ n ∧ n ≤ 9223372036854775807 := by simpa [Lit.wf, IntKind.min, IntKind.max, IntKind.signed, IntKind.bits] using hn
      omega
    · obtain ⟨i, d, g1, g2⟩ := mem_pair hl ht
      exact (hφ i d t g1 g2).2
    · obtain ⟨i, d, g1, g2⟩ := mem_pair hm ht
      exact (hψ i d t g1 g2).2
theorem ht_cs : ∀ (N : Nat) (d : DataW H), Rows.uptoBulk d ≤ N → ∀ p, HT Tryz.prog 106 d p → ∃ t, p = csec 0 t ∧ csize t ≤ Rows.uptoBulk d ∧ rgS t
  | 0, d, hN, _, _ => by have := bulk_one d; omega
  | N + 1, d, hN, p, h => by
    have hc := c_cs
    obtain ⟨ds, ps, rfl, rfl, hA⟩ := h.agg_inv hc
    clear h
    have h := hA
    clear hA
    obtain ⟨d1, ds, p1, ps, rfl, rfl, h1, h⟩ := h.cons_inv
    obtain ⟨d2, ds, p2, ps, rfl, rfl, h2, h⟩ := h.cons_inv
    obtain ⟨rfl, rfl⟩ := h.nil_inv
    simp only [Rows.uptoBulk, Rows.uptoBulkAll] at hN ⊢
    obtain ⟨q, rfl, hq⟩ := ht_pat _ d1 (Nat.le_refl _) p1 h1
    obtain ⟨t, rfl, ht, hr⟩ := ht_tm N d2 (by omega) p2 h2
    exact ⟨.mk q t, rfl, by simp only [csize]; omega, hr⟩
end
theorem c_kt : comps Tryz.prog 116 = some [(Tryz.prog.cellsOf 28, 28), (Tryz.prog.cellsOf 32, 32)] := by kernel_rfl
theorem c_wd : comps Tryz.prog 26 = some [(1, 22), (1, 23), (1, 24)] := by kernel_rfl
theorem u_kts : Tryz.prog.underlying 24 = some (.slice 116) := by kernel_rfl
theorem ht_kt {d : DataW H} {p : Pu} (h : HT Tryz.prog 116 d p) : ∃ x : KT, p = ktP x ∧ tsize x.2 ≤ Rows.uptoBulk d ∧ rgT x.2 := by
  have hc := c_kt
  obtain ⟨ds, ps, rfl, rfl, hA⟩ := h.agg_inv hc
  clear h
  have h := hA
  clear hA
  obtain ⟨d1, ds, p1, ps, rfl, rfl, h1, h⟩ := h.cons_inv
  obtain ⟨d2, ds, p2, ps, rfl, rfl, h2, h⟩ := h.cons_inv
  obtain ⟨rfl, rfl⟩ := h.nil_inv
  obtain ⟨r, rfl⟩ := ht_sum h1
  obtain ⟨t, rfl, ht, hr⟩ := ht_tm _ d2 (Nat.le_refl _) p2 h2
  exact ⟨(r, t), rfl, by simp only [Rows.uptoBulk, Rows.uptoBulkAll]; omega, hr⟩
theorem bulk_len (l : List (DataW H)) : l.length ≤ Rows.uptoBulkAll l := by
  induction l with
  | nil => simp [Rows.uptoBulkAll]
  | cons x r ih => have := bulk_one x; simp only [Rows.uptoBulkAll, List.length_cons]; omega
theorem ht_wd {d : DataW H} {p : Pu} (h : HT Tryz.prog 26 d p) : ∃ (a b : Pu) (ts : List KT), p = wdP a b ts ∧ ts.length ≤ Rows.uptoBulk d ∧ ∀ x ∈ ts, tsize x.2 ≤ Rows.uptoBulk d ∧ rgT x.2 := by
  obtain ⟨ds, ps, rfl, rfl, hA⟩ := h.agg_inv c_wd
  clear h
  have h := hA
  clear hA
  obtain ⟨d1, ds, p1, ps, rfl, rfl, h1, h⟩ := h.cons_inv
  obtain ⟨d2, ds, p2, ps, rfl, rfl, h2, h⟩ := h.cons_inv
  obtain ⟨d3, ds, p3, ps, rfl, rfl, h3, h⟩ := h.cons_inv
  obtain ⟨rfl, rfl⟩ := h.nil_inv
  obtain ⟨es, sp, qs, he, rfl, hq⟩ := h3.sl_inv u_kts
  have hb := sl_bulk he
  simp only [Rows.uptoBulk, Rows.uptoBulkAll]
  obtain ⟨l, rfl, hl, hφ⟩ := HTs.all (enc := ktP) (φ := fun d (x : KT) => tsize x.2 ≤ Rows.uptoBulk d ∧ rgT x.2) hq fun d hm p hp => ht_kt hp
  have hle := bulk_len es
  refine ⟨p1, p2, l, rfl, by omega, fun x hx => ?_⟩
  obtain ⟨i, d, g1, g2⟩ := mem_pair hl hx
  have := hφ i d x g1 g2
  have hm := bulk_mem (List.mem_of_getElem? g1)
  exact ⟨by omega, this.2⟩
end Go.Proofs.YtkcgkignhpepkaaGreatDoor

/- From a row's condition to a contract: what is alike for all laws. -/
namespace Go.Proofs.YtkcgkignhpepkaaGreatDoor
open Go Hs
open Go.ChangeShapes Go.WideShapes Go.ChangeAt Go.RowKit

/-- A world that holds some package variables. -/
def TabsL (l : List (Nat × Int)) (W : World) : Prop := ∀ g n, (g, n) ∈ l → ∀ j u, ((sumR n).map fun z => Value.int .u8 z)[j]? = some u → W.cell? ⟨g, j, none⟩ = some u
theorem tab_one {W : World} {name : String} {n : Int} {g : Nat} {l : List (String × DataW Unit)} (h : laidMetH Tryz.prog l W)
    (hl : l.filter (fun x => x.1 == name) = [(name, Lib.tabData .u8 (sumR n))]) (hg : Tryz.prog.globalNamed name = some g) (hty : (Tryz.prog.globals[g]?).map (·.type) = some 28) :
    ∀ j u, ((sumR n).map fun z => Value.int .u8 z)[j]? = some u → W.cell? ⟨g, j, none⟩ = some u := by
  have h1 := h.filter (fun x => x.1 == name)
  rw [hl] at h1
  have h2 : laidMet Tryz.prog [(name, Lib.tabData .u8 (sumR n))] W := by
    have := (laidMetH_iff.1 h1).1
    simpa [Lib.tabData, DataW.handleName?] using this
  have h3 := Lib.tabIs_of_head (t := 28) (e := 5) (n := 32) hg hty (by kernel_rfl) (by kernel_rfl) (by kernel_rfl) (by kernel_rfl) h2
  intro j u hj
  have := World.var?_cell hg h3 j
  rw [this, List.getElem?_toArray]
  exact hj
theorem tyU8 {z : Int} : tyP Tryz.prog 5 (.leaf (.int .u8 z)) = true := (by kernel_rfl : (comps Tryz.prog 5).isNone = true)
theorem tySum {r : List Int} : tyV Tryz.prog 28 (.pu (refP r)) = true := (by kernel_rfl : ((comps Tryz.prog 28).isSome && Tryz.prog.underlyingId 28 == Tryz.prog.underlyingId 28) = true)
theorem lenSum {n : Int} : ((sumR n).map fun z => Value.int .u8 z).length = Tryz.prog.cellsOf 28 := (by simp [sumR] : ((sumR n).map fun z => Value.int .u8 z).length = 32).trans (by kernel_rfl)
def bytL (l : List Int) : List Pu := l.map fun x => .leaf (.int .u8 x)
theorem prs_ints {D : Nat → Nat → Prop} {w : World} (zs : List Int) : PRs Tryz.prog D w (List.replicate zs.length (1, 5)) (bytL zs) (zs.map fun z => Value.int .u8 z) := by
  induction zs with
  | nil => exact .nil
  | cons z zs ih => exact PRs.cons (x := [.int .u8 z]) (.leaf rfl) rfl tyU8 ih
def cfg0 (W : World) : Cfg := { D := fun b _ => b < W.heap.size, ρ := fun _ => none, own := fun _ => none }
def gOf (l : List (Nat × Int)) : List (Nat × TypeId × Pu) := l.map fun x => (x.1, 28, refP (sumR x.2))
theorem gOf_get {l : List (Nat × Int)} {g : Nat} {T : TypeId} {p : Pu} (h : get (gOf l) g = some (T, p)) : ∃ n, (g, n) ∈ l ∧ T = 28 ∧ p = refP (sumR n) := by
  induction l with
  | nil => cases h
  | cons x l ih =>
    obtain ⟨i, n⟩ := x
    simp only [gOf, List.map_cons, get_cons] at h
    split at h
    · rename_i e; subst e; cases h; exact ⟨n, by simp, rfl, rfl⟩
    · obtain ⟨m, h1, h2⟩ := ih h
      exact ⟨m, by simp [h1], h2⟩
theorem gl_of {l : List (Nat × Int)} {W : World} (h : TabsL l W) : GL Tryz.prog (gOf l) (cfg0 W) W := by
  intro g T p hg
  obtain ⟨n, hm, rfl, rfl⟩ := gOf_get hg
  have hT := h g n hm
  refine VR.pp (x := (sumR n).map fun z => Value.int .u8 z) (.pu (PR.agg (cs := List.replicate 32 (1, 5)) (by kernel_rfl) (prs_ints (sumR n)))) tySum lenSum fun j u hj => ⟨by rw [Nat.zero_add]; exact hT j u hj, ?_⟩
  · have := hT j u hj
    show g < W.heap.size
    refine Nat.lt_of_not_le fun hb => ?_
    simp only [World.cell?, Array.getElem?_eq_none hb] at this
    cases this
theorem frag_of {l : List (Nat × Int)} {W : World} (h : TabsL l W) : Frag Tryz.prog (gOf l) (cfg0 W) W [] [] where
  heap := fun l ob h => by cases h
  inj := fun l l' b R R' ob ob' h => by cases h
  dObj := fun l ob b R o h => by cases h
  dLt := fun b o h => h
  own := fun b q k h => by cases h
  gl := gl_of h

/-- A contract, in a world that holds the package variables. -/
theorem call_of {l : List (Nat × Int)} {W : World} (hT : TabsL l W) {f : FuncId} {args : List PV} {xs : Array Value} (hc : FCall Tryz.prog (gOf l) f args (bv true)) (hx : VFs Tryz.prog (cfg0 W) W args xs.toList) :
    Calls Tryz.prog f xs W fun e W' => e = .returned (.bool true) ∧ Below W.heap.size W W' := by
  refine (hc (cfg0 W) W _ (frag_of hT) hx).mono fun e W' ⟨y, C', he, A⟩ => ?_
  subst he
  have hM : ∀ b, ¬ Mset (cfg0 W) [] b := fun b hb => by
    rcases hb with ⟨l, ob, R, h1, _⟩ | ⟨l, p, k, ob, h1, _⟩ <;> cases h1
  refine ⟨?_, ⟨A.os, A.tape, A.output, A.size, fun b hb => A.block b hb (hM b)⟩⟩
  cases A.val with
  | one h hs =>
    have h1 := h.pu_inv
    generalize hc : y.cells.toList = c at h1
    cases h1
    cases y <;> simp_all [Value.cells, valAgg, PV.isAgg]

theorem and_t {a b : Bool} (h1 : a = true) (h2 : b = true) : (a && b) = true := by rw [h1, h2]; rfl
theorem laidOutD : laidOutB Tryz.prog = true := by kernel_rfl
theorem undB : Tryz.prog.underlying 4 = some .bool := by kernel_rfl
/-! ### Arguments -/
section
variable {H : Type} {enc : TypeId × Value → H} {W : World}
theorem arg_ht {al : List TypeId} (hal : dataB Tryz.prog al = true) {t : TypeId} (ht : t ∈ al) {v : Value} {d : DataW H} {ps : List MemPlace} (h : DataW.Trod enc Tryz.prog W 0 (fun _ => true) true t v d ps) :
    ∃ p, HT Tryz.prog t d p ∧ PR Tryz.prog (cfg0 W).D W p v.cells.toList := by
  obtain ⟨fuel, hf⟩ := h
  obtain ⟨p, h1, h2, _, _⟩ := trod_ht tbl hal fuel t _ _ ht hf
  exact ⟨p, h1, h2⟩
end
end Go.Proofs.YtkcgkignhpepkaaGreatDoor

/- StepChecks: the card of its second form. -/
namespace Go.Proofs.YtkcgkignhpepkaaGreatDoor.stepChecks
open Go Hs
open Go.ChangeShapes Go.WideShapes Go.ChangeAt Go.RowKit

def tabs : List (Nat × Int) := [(0, 11), (4, 21)]
theorem tabs_of {W : World} (h : laidMetH Tryz.prog Rows.stepChecksUptoRow.laid W) : TabsL tabs W := by
  intro g n hm
  simp only [tabs, List.mem_cons, Prod.mk.injEq, List.not_mem_nil, or_false] at hm
  rcases hm with ⟨rfl, rfl⟩ | ⟨rfl, rfl⟩
  · exact tab_one (name := "hoarstone/hoarstonekit.State") h (by rfl) (by kernel_rfl) (by kernel_rfl)
  · exact tab_one (name := "hoarstone/hoarstonekit.Inc") h (by rfl) (by kernel_rfl) (by kernel_rfl)
def al : List TypeId := [26, 22, 23, 24, 130, 136, 116, 28, 5, 128, 134, 9, 3, 126, 53, 58, 56, 4, 54, 132, 167, 32, 29, 30, 106, 104, 102]
theorem al_ok : dataB Tryz.prog al = true := by kernel_rfl
theorem par : Tryz.f3.params = #[26, 32] := by kernel_rfl
theorem two {Q : TypeId → Value → Prop} {a b : TypeId} {x y : Value} (h : ∀ (j : Nat) t v, (#[a, b] : Array TypeId)[j]? = some t → (#[x, y] : Array Value)[j]? = some v → Q t v) : Q a x ∧ Q b y := ⟨h 0 a x rfl rfl, h 1 b y rfl rfl⟩
theorem tm_agg (t : Tm) : true = (PV.pu (tmc 0 t)).isAgg := by cases t; rfl

set_option maxRecDepth 100000 in
/-- The contract. -/
theorem contract (H : Type) (enc : TypeId × Value → H) (W : World) (base : Nat) (args : Array Value) (ds gs : List (DataW H)) (before : List MemPlace)
    (hval : ∀ (j : Nat) t v, Tryz.f3.params[j]? = some t → args[j]? = some v → Value.okWide Tryz.prog W .any base t v)
    (hW : DataW.Whole enc Tryz.prog Tryz.f3.params.toList Rows.stepChecksSpec.vars false W args.toList ds gs before) (hL : laidMetH Tryz.prog Rows.stepChecksUptoRow.laid W) (hk : Rows.uptoSmall H (ds ++ gs) = true) :
    Calls Tryz.prog 3 args W fun e W' => ∃ v, e = .returned v ∧ Rows.stepChecksSpec.post enc Tryz.prog Tryz.f3 false true false false W args v W' := by
  have hT := tabs_of hL
  have hW' := hW
  obtain ⟨p, q, hA0, hV, rfl, hfz, hnd⟩ := hW
  have hA : DataW.TrodAll enc Tryz.prog W 0 (fun _ => true) true Tryz.f3.params.toList args.toList ds p := hA0
  rw [par] at hA hval
  obtain ⟨v0, vs0, d0, ds0, p0, q0, hargs, rfl, rfl, h0, r0⟩ := trodAll_cons hA
  obtain ⟨v1, vs1, d1, ds1, p1, q1, e1, rfl, rfl, h1, r1⟩ := trodAll_cons r0
  obtain ⟨rfl, rfl, rfl⟩ := trodAll_nil r1
  subst e1
  obtain rfl : args = #[v0, v1] := by cases args; simp_all
  obtain ⟨rfl, rfl⟩ := trodVars_none hV
  obtain ⟨hv0, hv1⟩ := two hval
  clear hval
  simp only [List.append_nil] at hW' hA0 hk
  have hbulk : Rows.uptoBulkAll [d0, d1] ≤ 1048576 := of_decide_eq_true hk
  simp only [Rows.uptoBulkAll] at hbulk
  have hlt : ∀ x ∈ p0 ++ p1, x.block < W.heap.size := fun x hx => by simpa using hW'.lt x (by simpa using hx)
  obtain ⟨u0, t0, x0⟩ := arg_ht al_ok (by simp [al]) h0
  obtain ⟨u1, t1, x1⟩ := arg_ht al_ok (by simp [al]) h1
  obtain ⟨a, b, ts, rfl, hl, hts⟩ := ht_wd t0
  obtain ⟨t, rfl, ht, hrg⟩ := ht_tm _ d1 (Nat.le_refl _) _ t1
  have hagg0 : valAgg v0 = true := agg_of (by kernel_rfl) hv0
  have hagg1 : valAgg v1 = true := agg_of (by kernel_rfl) hv1
  have hc := stepChecks_c a b ts t (by omega) (fun x hx => by have := (hts x hx).1; omega) (by omega) hrg
  refine (call_of (l := tabs) hT hc (xs := #[v0, v1]) (.cons (.pu x0) hagg0 (.cons (.pu x1) (hagg1.trans (tm_agg t)) .nil))).mono fun e W' ⟨he, hb⟩ => ?_
  subst he
  have s0 := Below.trod laidOutD (by kernel_rfl) (of_decide_eq_true (by kernel_rfl)) h0 hb fun x hx => hlt x (by simp [hx])
  have s1 := Below.trod laidOutD (by kernel_rfl) (of_decide_eq_true (by kernel_rfl)) h1 hb fun x hx => hlt x (by simp [hx])
  refine ⟨_, rfl, _, _, _, [], p0 ++ p1, [], hW', ?_, ?_, rfl, ?_, fun h => by cases h⟩
  · exact trodAll_mk1 (shut_bool undB _)
  · exact trodAll_mk2 s0 s1
  · simpa using hb.frame _

theorem own : ownKnob Tryz.prog.godebug = none := by kernel_rfl
/-- A world for the witness. -/
noncomputable def lay (h : Array Obj) (g : Nat) (n : Int) : Array Obj := h.modify g fun
  | .cells _ t frozen => .cells ((sumR n).map fun z => Value.int .u8 z).toArray t frozen
  | o => o
noncomputable def zeros : Array Value := #[.agg #[.slice none 0 0, .slice none 0 0, .slice none 0 0], .agg (((Value.int .i64 0 :: Value.int .i64 0 :: List.replicate 32 (Value.int .u8 0)) ++ [Value.slice none 0 0, Value.slice none 0 0]).toArray)]
noncomputable def laidWorld (os : Os) : World :=
  { World.holding Tryz.prog os ⟨#[], #[], []⟩ with heap := tabs.foldl (fun h (x : Nat × Int) => lay h x.1 x.2) (World.holding Tryz.prog os ⟨#[], #[], []⟩).heap }
theorem laid_met (os : Os) : laidMet Tryz.prog Rows.stepChecksUptoRow.laid ((laidWorld os).forCall (fun _ _ => 0) ⟨#[], zeros, []⟩).memory :=
  laidMet_of_run' 8 (by kernel_rfl) (by kernel_rfl)
noncomputable def zeroSum {H : Type} : DataW H := .agg (List.replicate 32 (.lit (.int .u8 0)))
noncomputable def zeroDs {H : Type} : List (DataW H) := [.agg [.nil, .nil, .nil], .agg [.lit (.int .i64 0), .lit (.int .i64 0), zeroSum, .nil, .nil]]
theorem reads (os : Os) {H : Type} (enc : TypeId × Value → H) : ∃ places, DataW.whole enc Tryz.prog ((laidWorld os).forCall (fun _ _ => 0) ⟨#[], zeros, []⟩).memory Tryz.f3.params.toList Rows.stepChecksSpec.vars false zeros.toList 8 = some (zeroDs, [], places) :=
  ⟨[], by kernel_rfl⟩
set_option maxRecDepth 100000 in
theorem lifted (os : Os) (started : os.Started) (H : Type) (enc : TypeId × Value → H) (F : Stop.Interp) :
    ReturnsInHanded {} Tryz.checked os 3 .any ((Rows.OpenSpec.upto Rows.stepChecksSpec).preRow enc Tryz.prog Tryz.f3 Rows.stepChecksUptoRow.domain false Rows.stepChecksUptoRow.laid) (((Rows.OpenSpec.upto Rows.stepChecksSpec).at F).post enc Tryz.prog Tryz.f3 false true false false) := by
  obtain ⟨places, hx⟩ := reads os enc
  refine returnsInHanded_of_row (C := Tryz.checked) (s := Rows.OpenSpec.upto Rows.stepChecksSpec) own started (by kernel_rfl) Tryz.func3
    (witness_row_at (enc := enc) (C := Tryz.checked) false (laidWorld os) zeros rfl (by kernel_rfl) (by kernel_rfl) (by kernel_rfl)
      (OpenSpec.preRow_of_cond 8 hx (by kernel_rfl) (fun k hk => by cases hk; kernel_rfl) (by kernel_rfl) (laid_met os))) ?_
  intro W base args ds gs before hval hW _ hcond _ hL _ _
  exact contract H enc W base args ds gs before hval hW hL (hcond _ rfl)
set_option maxHeartbeats 100000000 in
theorem facts : joinedFacts Tryz.pinned.checked.prog 3 Tryz.f3 (Rows.OpenSpec.upto Rows.stepChecksSpec).bare Rows.stepChecksUptoRow = true := by
  unfold joinedFacts
  repeat' (with_reducible refine and_t ?_ ?_)
  all_goals (as_aux_lemma => kernel_rfl)
theorem said : Rows.StepChecksUptoSaid :=
  OpenClaim.holds_of_cond 3 Tryz.f3 rfl rfl rfl rfl rfl rfl rfl ⟨rfl, rfl, rfl, rfl, rfl⟩ rfl rfl rfl rfl rfl (by kernel_rfl) Tryz.func3 facts
    (of_decide_eq_true (by kernel_rfl)) (by unfold Func.isWrapper; first | (rw [if_pos (by decide +kernel)]; kernel_rfl) | (rw [if_neg (by decide +kernel)]; exact ⟨rfl, rfl⟩))
    (fun os started H enc _ F => by rw [OpenClaim.pre_eq_preRow]; exact lifted os started H enc F)
theorem plain (f : FuncId) (fn : Func) (hf : Tryz.pinned.checked.prog.funcNamed "hoarstone/hoarstonelaw16.StepChecks" = some f) (hfn : Tryz.pinned.checked.prog.funcs[f]? = some fn) :
    false = Tryz.pinned.checked.prog.looks [] ∧ ∀ (j : Nat) t, fn.params[j]? = some t → Tryz.pinned.checked.prog.wantsStandIn t = false := by
  obtain rfl : f = 3 := Option.some.inj ((show Tryz.prog.funcNamed "hoarstone/hoarstonelaw16.StepChecks" = some 3 by kernel_rfl).symm.trans hf) |>.symm
  obtain rfl : fn = Tryz.f3 := (Option.some.inj (Tryz.func3.symm.trans hfn)).symm
  refine ⟨by kernel_rfl, fun j t ht => ?_⟩
  rw [par] at ht
  have hm := Array.mem_of_getElem? ht
  have q0 : Tryz.prog.wantsStandIn 26 = false := by kernel_rfl
  have q1 : Tryz.prog.wantsStandIn 32 = false := by kernel_rfl
  simp only [List.mem_toArray, List.mem_cons, List.not_mem_nil, or_false] at hm
  rcases hm with rfl | rfl
  · exact q0
  · exact q1
theorem card : Rows.StepChecksUptoCardSaid :=
  Claim7.holds_tied_plain_at .later [] _ _ _ _ said (fun _ h => by cases h) (by kernel_rfl) (fun _ h => by cases h) stepChecksUpto_row_tie rfl ⟨rfl, rfl⟩ (by kernel_rfl) rfl plain (by kernel_rfl)
end Go.Proofs.YtkcgkignhpepkaaGreatDoor.stepChecks

