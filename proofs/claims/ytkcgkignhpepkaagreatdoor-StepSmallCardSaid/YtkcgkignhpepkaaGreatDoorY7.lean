/- Part 7 of the proof: lemmas on walks and the walks of the functions, in their order. -/
import Derived.Test.YtkcgkignhpepkaaGreatDoorY6
set_option linter.unusedSimpArgs false
set_option linter.unusedVariables false
set_option linter.unusedSectionVars false
set_option linter.constructorNameAsVariable false
/- Terms that are the same: the chapter's and the reference's. -/
namespace Go.Proofs.YtkcgkignhpepkaaGreatDoor
open Go Hs
section
variable {G : List (Nat × TypeId × Pu)}
def aL1 (k n : Int) (r : List Int) : Pu := .agg 275 [.leaf (.int .i64 k), .leaf (.int .i64 n), l4 r]
instance (k n : Int) (r : List Int) : TyV Tryz.prog 275 (.pu (aL1 k n r)) := inferInstanceAs (TyV Tryz.prog 275 (.pu (.agg _ _)))
theorem bN5 (k n : Int) (r : List Int) (k' n' : Int) (r' : List Int) : Tryz.prog.eqGuardType Tryz.prog.depth 275 = false ∧ 275 < Tryz.prog.types.size ∧ tyP Tryz.prog 275 (aL1 k n r) = true ∧ tyP Tryz.prog 275 (aL1 k' n' r') = true :=
 ⟨by kernel_rfl, of_decide_eq_true (by kernel_rfl), (show tyV Tryz.prog 275 (.pu (aL1 k n r)) = true from TyV.ok), (show tyV Tryz.prog 275 (.pu (aL1 k' n' r')) = true from TyV.ok)⟩
theorem cj1 {α : Type} : ∀ {l : List α}, l.length = 3 → ∃ a b c, l = [a, b, c]
 | [a, b, c], _ => ⟨a, b, c, rfl⟩
theorem bn7 : ∃ f1 f2 f3 : Field, Tryz.prog.underlying 275 = some (.struct #[f1, f2, f3]) ∧ (f1.name ≠ "_" ∧ f2.name ≠ "_" ∧ f3.name ≠ "_") ∧ f1.type = 3 ∧ f2.type = 3 ∧ f3.type = 28 := by
 have h : (match Tryz.prog.underlying 275 with | some (.struct fs) => (fs.toList.map (·.type) == [3, 3, 28]) && fs.toList.all (fun f => f.name != "_") | _ => false) = true := by kernel_rfl
 split at h
 ·rename_i fs hfs
  obtain ⟨l⟩ := fs
  simp only [Bool.and_eq_true, beq_iff_eq] at h
  obtain ⟨h1, h2⟩ := h
  obtain ⟨f1, f2, f3, rfl⟩ : ∃ f1 f2 f3, l = [f1, f2, f3] := cj1 (by simpa using congrArg List.length h1)
  simp only [List.map_cons, List.map_nil, List.cons.injEq, and_true] at h1
  simp only [List.all_cons, List.all_nil, Bool.and_true, Bool.and_eq_true, bne_iff_ne] at h2
  exact ⟨f1, f2, f3, hfs, h2, h1.1, h1.2.1, h1.2.2⟩
 ·cases h
theorem bU6 (d : Nat) (k n : Int) {r : List Int} (k' n' : Int) {r' : List Int} (h : r.length = r'.length) : peqT Tryz.prog (d + 4) 275 (aL1 k n r) (aL1 k' n' r') = some ((k == k') && ((n == n') && ((r == r') && true))) := by
 obtain ⟨f1, f2, f3, hu, ⟨a1, a2, a3⟩, b1, b2, b3⟩ := bn7
 have hs : Tryz.prog.stoodInHeld 275 = false := by kernel_rfl
 have hi : Tryz.prog.underlying 3 = some (.int .i64) := by kernel_rfl
 have hr := aJ6 (d + 1) h
 have hn : ∀ a b : Int, peqT Tryz.prog (d + 3) 3 (.leaf (.int .i64 a)) (.leaf (.int .i64 b)) = some (a == b) := fun a b => by simp only [peqT, hi, if_true]
 unfold aL1
 rw [peqT.eq_def]
 simp only [hu, hs, Bool.false_eq_true, if_false, bd6, a1, a2, a3, b1, b2, b3, hr, hn]
theorem bZ2 {k n : Int} {r : List Int} {k' n' : Int} {r' : List Int} (h : r.length = r'.length) : M2 Tryz.prog .eql 275 (.pu (aL1 k n r)) (.pu (aL1 k' n' r')) = some (bv ((k == k') && ((n == n') && ((r == r') && true)))) := by
 have h1 := bN5 k n r k' n' r'
 have h2 := fun e => bU6 e k n k' n' h
 unfold aL1 at h1 h2 ⊢
 simp only [M2, if_pos h1]
 generalize hd : (100 : Nat) = d
 obtain ⟨e, rfl⟩ : ∃ e, d = e + 4 := ⟨96, by omega⟩
 rw [h2 e]
theorem bG8 : ∀ (N : Nat) (p q : Pat), l9 p ≤ N → N < 2^40 → l9 q < 2^40 → FCall Tryz.prog G 190 [.pu (v7 0 p), .pu (v7 0 q)] (bv (I8 p q)) := by
 intro N
 induction N with
 | zero => intro p q h; cases p; simp [l9] at h
 | succ N ih =>
 intro p q hp hN hq
 obtain ⟨k, n, r, ks⟩ := p
 obtain ⟨k', n', r', ks'⟩ := q
 simp only [l9] at hp hq
 have hlen := m4 ks
 have hlen' := m4 ks'
 refine Fq 27 Tryz.func190 ?_;intro w0 M ρ0 D0
 refine Tri.fact (i := 0) rfl (fun D w x h => W8 h) (fun hr => ?_);refine Tri.fact (i := 1) rfl (fun D w x h => W8 h) (fun hr' => ?_)
 simp only [wfP] at hr hr'
 refine Y91 ?_;refine Y13 ?_;refine Y70 ?_;refine yP ?_;refine Y70 ?_;refine Y5 ?_;refine yP ?_;refine b5 (D4 SS (h := bZ2 (hr.1.trans hr'.1.symm))) ?_;refine Y39 ?_;refine f7 zG (c8 (fun _ => bh8 190 (by kernel_rfl) I8 ks ks' (by omega) (by omega) (fun i h1 h2 => ih _ _ (by have := q9 h1; omega) (by omega) (by have := q9 h2; omega)))) ?_;refine Y44 ?_;refine Rq ?_;exact m0 (by simp only [I8, al0, Bool.and_true, Bool.and_assoc])
theorem bG9 (c d : Cs) (hp : p9 c < 2^40) (hq : p9 d < 2^40) (h : FCall Tryz.prog G 129 [.pu (tmc 0 (csT c)), .pu (tmc 0 (csT d))] (bv (C7 (csT c) (csT d)))) : FCall Tryz.prog G 189 [.pu (J3 0 c), .pu (J3 0 d)] (bv (R8 c d)) := by
 obtain ⟨p, t⟩ := c
 obtain ⟨q, u⟩ := d
 simp only [csT, p9] at h hp hq
 refine Fq 17 Tryz.func189 ?_;intro w0 M ρ0 D0
 refine Y91 ?_;refine Y13 ?_;refine Y5 ?_;refine Dq (bG8 _ p q (Nat.le_refl _) (by omega) (by omega)) ?_;refine Y39 ?_;refine f7 zG (c8 (fun _ => h)) ?_;refine Y44 ?_;refine Rq ?_;exact m0 (by simp only [R8])
theorem bG7 : ∀ (N : Nat) (t u : Tm), a8 t ≤ N → N < 2^40 → a8 u < 2^40 → FCall Tryz.prog G 129 [.pu (tmc 0 t), .pu (tmc 0 u)] (bv (C7 t u)) := by
 intro N
 induction N with
 | zero => intro t u h; have := m8 t; omega
 | succ N ih =>
 intro t u hp hN hq
 obtain ⟨k, n, r, ks, cs⟩ := t
 obtain ⟨k', n', r', ks', cs'⟩ := u
 simp only [a8] at hp hq
 have hlen := f9 ks
 have hlen' := f9 ks'
 have hlc := m5 cs
 have hlc' := m5 cs'
 refine Fq 38 Tryz.func129 ?_;intro w0 M ρ0 D0
 refine Tri.fact (i := 0) rfl (fun D w x h => ab7 h) (fun hr => ?_);refine Tri.fact (i := 1) rfl (fun D w x h => ab7 h) (fun hr' => ?_)
 simp only [wfT] at hr hr'
 have hcs : ∀ i (h1 : i < cs.length) (h2 : i < cs'.length), FCall Tryz.prog G 189 [.pu (J3 0 cs[i]), .pu (J3 0 cs'[i])] (bv (R8 cs[i] cs'[i])) := fun i h1 h2 => by
  have s1 := E4 h1
  have s2 := E4 h2
  generalize cs[i] = c at s1 ⊢
  generalize cs'[i] = d at s2 ⊢
  refine bG9 c d (by omega) (by omega) ?_
  obtain ⟨p, t⟩ := c
  obtain ⟨q, u⟩ := d
  simp only [p9, csT] at s1 s2 ⊢
  exact ih t u (by omega) (by omega) (by omega)
 refine Y91 ?_;refine Y13 ?_;refine Y54 ?_;refine Y39 ?_;refine Y53 ?_;refine Y39 ?_;refine f7 zG (D4 SS (h := U6 (hr.1.trans hr'.1.symm))) ?_;refine yN ?_;refine Y39 ?_;refine f7 zG (c8 (fun _ => bv5 129 (by kernel_rfl) C7 ks ks' (by omega) (by omega) (fun i h1 h2 => ih _ _ (by have := D5 h1; omega) (by omega) (by have := D5 h2; omega)))) ?_;refine yN ?_;refine Y39 ?_;refine f7 zG (c8 (fun _ => bv6 189 (by kernel_rfl) R8 cs cs' (by omega) (by omega) hcs)) ?_;refine Y44 ?_
 refine Rq ?_;exact m0 (by simp only [C7, al1, ak9])
theorem bJ0 : ∀ (N : Nat) (p q : Pat), l9 p ≤ N → N < 2^40 → l9 q < 2^40 → FCall Tryz.prog G 188 [.pu (v7 0 p), .pu (v7 0 q)] (bv (I8 p q)) := by
 intro N
 induction N with
 | zero => intro p q h; cases p; simp [l9] at h
 | succ N ih =>
 intro p q hp hN hq
 obtain ⟨k, n, r, ks⟩ := p
 obtain ⟨k', n', r', ks'⟩ := q
 simp only [l9] at hp hq
 have hlen := m4 ks
 have hlen' := m4 ks'
 have hsame : I8 (.mk k n r ks) (.mk k' n' r' ks') = ((k == k' && n == n' && r == r') && t6 I8 ks ks') := by simp only [I8, al0]
 refine Fq 53 Tryz.func188 ?_;intro w0 M ρ0 D0
 refine Tri.fact (i := 0) rfl (fun D w x h => W8 h) (fun hr => ?_);refine Tri.fact (i := 1) rfl (fun D w x h => W8 h) (fun hr' => ?_)
 simp only [wfP] at hr hr'
 refine Y91 ?_;refine Y13 ?_;refine Y54 ?_;refine Y39 ?_;refine Y29 ?_;refine Y39 ?_;refine f7 zG (D4 SS (h := ag4 (hr.1.trans hr'.1.symm))) ?_;refine yO ?_;refine Y12 ?_;refine xC ?_;refine Y6 ?_;refine xC ?_;refine Y29 ?_;refine Y0 ?_;refine Cq ?_ ?_
 ·intro h0
  have hf : I8 (.mk k n r ks) (.mk k' n' r' ks') = false := by
   rw [f5, f5] at h0
   rw [hsame]
   by_cases hl : ks.length = ks'.length
   ·have hA : (k == k' && n == n' && r == r') = false := by
     by_cases h1 : k = k'
     ·by_cases h2 : n = n'
      ·by_cases h3 : r = r'
       ·simp [h1, h2, h3, hl] at h0
       ·simp [h3]
      ·simp [h2]
     ·simp [h1]
    rw [hA, Bool.false_and]
   ·rw [P2 hl, Bool.and_false]
  refine Y10 ?_;refine Rq ?_;exact m0 hf.symm
 ·intro h0
  have hq0 : k = k' ∧ n = n' ∧ r = r' ∧ ks.length = ks'.length := by
   rw [f5, f5] at h0
   simp at h0
   exact ⟨by simp_all, by simp_all, by simp_all, by omega⟩
  obtain ⟨e1, e2, e3, hlm⟩ := hq0
  rw [show (k == k' && n == n' && r == r') = true by simp [e1, e2, e3], Bool.true_and] at hsame
  refine Y45 ?_;refine Tri.block (Tri.loopW (σ := {i : Nat // t6 I8 (ks.take i) (ks'.take i) = true}) (fun i => ⟨[(2, .ptr 2 [] 104), (3, .ptr 3 [] 104), (5, iv .i64 i.1)], [(2, .var 104 (.pu (v7 0 (.mk k n r ks)))), (3, .var 104 (.pu (v7 0 (.mk k' n' r' ks'))))]⟩) (fun i => ks.length - i.1) ⟨0, by simp [t6]⟩ ?_ ?_ (fun i => ?_))
  ·exact zW
  ·exact zW
  refine Y93 ?_;refine Cq ?_ ?_
  ·intro h1
   have hi : i.1 < ks.length := by rw [f5] at h1; simpa using h1
   have hi2 : i.1 < ks'.length := by omega
   have htk := K6 (φ := I8) hi hi2
   rw [i.2, Bool.true_and] at htk
   refine Y90 ?_;refine b5 (g9 SS (h0 := by omega) (hp := D9 hi)) ?_;refine yL ?_;refine Y68 ?_;refine b5 (g9 SS (h0 := by omega) (hp := D9 hi2)) ?_;refine yL ?_;refine Dq (ih ks[i.1] ks'[i.1] (by have := q9 hi; omega) (by omega) (by have := q9 hi2; omega)) ?_;refine yQ ?_;refine Y42 ?_;refine Cq ?_ ?_
   ·intro h2
    have hf : I8 (.mk k n r ks) (.mk k' n' r' ks') = false := by rw [hsame]; exact K8 (i := i.1 + 1) (by rw [htk]; simpa using h2)
    refine Y10 ?_;refine Rq ?_;exact m0 hf.symm
   ·intro h2
    have hnext : t6 I8 (ks.take (i.1 + 1)) (ks'.take (i.1 + 1)) = true := by rw [htk]; simpa using h2
    refine Y99 ?_
    refine ⟨⟨i.1 + 1, hnext⟩, by show ks.length - (i.1 + 1) < ks.length - i.1; omega, i9 ?_ ?_⟩
    ·exact zE
    ·exact zH
  ·intro h1
   have hf : I8 (.mk k n r ks) (.mk k' n' r' ks') = true := by
    have := i.2
    rw [hsame]
    rwa [List.take_of_length_le (by rw [f5] at h1; simp at h1; omega), List.take_of_length_le (by rw [f5] at h1; simp at h1; omega)] at this
   refine Y63 ?_;refine Rq ?_;exact m0 hf.symm
set_option maxHeartbeats 1000000 in
theorem bI9 : ∀ (N : Nat) (p q : Tm), a8 p ≤ N → N < 2^40 → a8 q < 2^40 → FCall Tryz.prog G 126 [.pu (tmc 0 p), .pu (tmc 0 q)] (bv (C7 p q)) := by
 intro N
 induction N with
 | zero => intro p q h; have := m8 p; omega
 | succ N ih =>
 intro p q hp hN hq
 obtain ⟨k, n, r, ks, cs⟩ := p
 obtain ⟨k', n', r', ks', cs'⟩ := q
 simp only [a8] at hp hq
 have hlen := f9 ks
 have hlen' := f9 ks'
 have hlc := m5 cs
 have hlc' := m5 cs'
 have hsame : C7 (.mk k n r ks cs) (.mk k' n' r' ks' cs') = ((k == k' && n == n' && r == r') && t6 C7 ks ks' && t6 R8 cs cs') := by simp only [C7, ak9, al1]
 refine Fq 100 Tryz.func126 ?_;intro w0 M ρ0 D0
 refine Tri.fact (i := 0) rfl (fun D w x h => ab7 h) (fun hr => ?_);refine Tri.fact (i := 1) rfl (fun D w x h => ab7 h) (fun hr' => ?_)
 simp only [wfT] at hr hr'
 refine Y91 ?_;refine Y13 ?_;refine Y54 ?_;refine Y39 ?_;refine Y29 ?_;refine Y39 ?_;refine f7 zG (D4 SS (h := ag4 (hr.1.trans hr'.1.symm))) ?_;refine yO ?_;refine Y12 ?_;refine xC ?_;refine Y6 ?_;refine xC ?_;refine Y59 ?_;refine xC ?_;refine Y6 ?_;refine xC ?_;refine Y29 ?_;refine Y0 ?_;refine Cq ?_ ?_
 ·intro h0
  have hf : C7 (.mk k n r ks cs) (.mk k' n' r' ks' cs') = false := by
   rw [a9, a9, j3, j3] at h0
   rw [hsame]
   by_cases hl : ks.length = ks'.length
   ·by_cases hl2 : cs.length = cs'.length
    ·have hA : (k == k' && n == n' && r == r') = false := by
      by_cases h1 : k = k'
      ·by_cases h2 : n = n'
       ·by_cases h3 : r = r'
        ·simp [h1, h2, h3, hl, hl2] at h0
        ·simp [h3]
       ·simp [h2]
      ·simp [h1]
     rw [hA, Bool.false_and, Bool.false_and]
    ·rw [P2 hl2, Bool.and_false]
   ·rw [P2 hl, Bool.and_false, Bool.false_and]
  refine Y10 ?_;refine Rq ?_;exact m0 hf.symm
 ·intro h0
  have hq0 : k = k' ∧ n = n' ∧ r = r' ∧ ks.length = ks'.length ∧ cs.length = cs'.length := by
   rw [a9, a9, j3, j3] at h0
   simp at h0
   exact ⟨by simp_all, by simp_all, by simp_all, by omega, by omega⟩
  obtain ⟨e1, e2, e3, hlm, hlm2⟩ := hq0
  rw [show (k == k' && n == n' && r == r') = true by simp [e1, e2, e3], Bool.true_and] at hsame
  refine Y45 ?_;refine Tri.block (Tri.loopW (σ := {i : Nat // t6 C7 (ks.take i) (ks'.take i) = true}) (fun i => ⟨[(2, .ptr 2 [] 32), (3, .ptr 3 [] 32), (5, iv .i64 i.1)], [(2, .var 32 (.pu (tmc 0 (.mk k n r ks cs)))), (3, .var 32 (.pu (tmc 0 (.mk k' n' r' ks' cs'))))]⟩) (fun i => ks.length - i.1) ⟨0, by simp [t6]⟩ ?_ ?_ (fun i => ?_))
  ·exact zW
  ·exact zW
  refine Y93 ?_;refine Cq ?_ ?_
  ·intro h1
   have hi : i.1 < ks.length := by rw [a9] at h1; simpa using h1
   have hi2 : i.1 < ks'.length := by omega
   have htk := K6 (φ := C7) hi hi2
   rw [i.2, Bool.true_and] at htk
   refine Y90 ?_;refine b5 (g9 SS (h0 := by omega) (hp := q7 hi)) ?_;refine yL ?_;refine Y68 ?_;refine b5 (g9 SS (h0 := by omega) (hp := q7 hi2)) ?_;refine yL ?_;refine Dq (ih ks[i.1] ks'[i.1] (by have := D5 hi; omega) (by omega) (by have := D5 hi2; omega)) ?_;refine yQ ?_;refine Y42 ?_;refine Cq ?_ ?_
   ·intro h2
    have hf : C7 (.mk k n r ks cs) (.mk k' n' r' ks' cs') = false := by rw [hsame, K8 (i := i.1 + 1) (by rw [htk]; simpa using h2)]; rfl
    refine Y10 ?_;refine Rq ?_;exact m0 hf.symm
   ·intro h2
    have hnext : t6 C7 (ks.take (i.1 + 1)) (ks'.take (i.1 + 1)) = true := by rw [htk]; simpa using h2
    refine Y99 ?_
    refine ⟨⟨i.1 + 1, hnext⟩, by show ks.length - (i.1 + 1) < ks.length - i.1; omega, i9 ?_ ?_⟩
    ·exact zE
    ·exact zH
  ·intro h1
   have hks : t6 C7 ks ks' = true := by
    have := i.2
    rwa [List.take_of_length_le (by rw [a9] at h1; simp at h1; omega), List.take_of_length_le (by rw [a9] at h1; simp at h1; omega)] at this
   rw [hks, Bool.true_and] at hsame
   refine Y63 ?_;refine Tri.block (Tri.loopW (σ := {i : Nat // t6 R8 (cs.take i) (cs'.take i) = true}) (fun i => ⟨[(2, .ptr 2 [] 32), (3, .ptr 3 [] 32), (6, iv .i64 i.1)], [(2, .var 32 (.pu (tmc 0 (.mk k n r ks cs)))), (3, .var 32 (.pu (tmc 0 (.mk k' n' r' ks' cs'))))]⟩) (fun i => cs.length - i.1) ⟨0, by simp [t6]⟩ ?_ ?_ (fun i => ?_))
   ·exact zW
   ·exact zW
   refine Y93 ?_;refine Cq ?_ ?_
   ·intro h3
    have hi : i.1 < cs.length := by rw [j3] at h3; simpa using h3
    have hi2 : i.1 < cs'.length := by omega
    have htk := K6 (φ := R8) hi hi2
    rw [i.2, Bool.true_and] at htk
    have hz := E4 hi
    have hz2 := E4 hi2
    have hg := G2 (lo := 0) hi
    have hg2 := G2 (lo := 0) hi2
    generalize cs[i.1] = c at htk hz hg
    generalize cs'[i.1] = c' at htk hz2 hg2
    obtain ⟨q, x⟩ := c
    obtain ⟨q', x'⟩ := c'
    simp only [p9] at hz hz2
    simp only [R8] at htk
    refine Y90 ?_;refine Xq hg ?_;refine Y5 ?_;refine Y68 ?_;refine Xq hg2 ?_;refine Y5 ?_;refine Dq (bJ0 _ q q' (Nat.le_refl _) (by omega) (by omega)) ?_;refine yQ ?_;refine Y12 ?_;refine xM ?_;refine f7 zG (g9 SS (h0 := by omega) (hp := hg)) ?_;refine Y6 ?_;refine Y6 ?_;refine xM ?_;refine f7 zG (g9 SS (h0 := by omega) (hp := hg2)) ?_;refine Y6 ?_;refine f7 zG (c8 (fun _ => ih x x' (by omega) (by omega) (by omega))) ?_;refine aq3 ?_;refine Y42 ?_;refine Cq ?_ ?_
    ·intro h4
     have hf : C7 (.mk k n r ks cs) (.mk k' n' r' ks' cs') = false := by
      rw [hsame];refine K8 (i := i.1 + 1) ?_;rw [htk]
      cases hA : I8 q q' <;> cases hB : C7 x x' <;> simp_all
     refine Y10 ?_;refine Rq ?_;exact m0 hf.symm
    ·intro h4
     have hnext : t6 R8 (cs.take (i.1 + 1)) (cs'.take (i.1 + 1)) = true := by
      rw [htk]
      cases hA : I8 q q' <;> cases hB : C7 x x' <;> simp_all
     refine Y99 ?_
     refine ⟨⟨i.1 + 1, hnext⟩, by show cs.length - (i.1 + 1) < cs.length - i.1; omega, i9 ?_ ?_⟩
     ·exact zE
     ·exact zH
   ·intro h3
    have hf : C7 (.mk k n r ks cs) (.mk k' n' r' ks' cs') = true := by
     have := i.2
     rw [hsame]
     rwa [List.take_of_length_le (by rw [j3] at h3; simp at h3; omega), List.take_of_length_le (by rw [j3] at h3; simp at h3; omega)] at this
    refine Y63 ?_;refine Rq ?_;exact m0 hf.symm
end
section
variable {G : List (Nat × TypeId × Pu)}
mutual
def G3 : Tm → Tm
 | .mk k n r ks _ => if k = 3 then .mk 3 0 Z32 [.mk 2 0 Z32 [] []] [] else .mk k n r (T4 ks) []
def T4 : List Tm → List Tm
 | [] => []
 | t :: ts => G3 t :: T4 ts
end
theorem V6 : ∀ ks, T4 ks = ks.map G3
 | [] => rfl
 | t :: ts => by simp only [T4, List.map_cons, V6 ts]
mutual
def ncT : Tm → Prop
 | .mk k _ _ ks cs => k = 3 ∨ (cs = [] ∧ ncL ks)
def ncL : List Tm → Prop
 | [] => True
 | t :: ts => ncT t ∧ ncL ts
end
theorem bt8 : ∀ {ks : List Tm}, ncL ks → ∀ x ∈ ks, ncT x
 | _ :: _, h, x, hx => by
  rcases List.mem_cons.1 hx with rfl | hx
  ·exact h.1
  ·exact bt8 h.2 x hx
mutual
theorem aT4 : ∀ {t : Tm}, D3 t = true → shT t → lcT t → ncT t
 | .mk k n r ks cs, hv, hs, hl => by
  by_cases h3 : k = 3
  ·exact .inl h3
  have hk : k = 2 ∨ k = 8 := by
   simp only [D3, Bool.or_eq_true, Bool.and_eq_true, beq_iff_eq] at hv
   omega
  have hc : cs = [] := by
   have := hl.1.1
   have hh : A8 k = false := by rcases hk with rfl | rfl <;> rfl
   rw [hh] at this
   simp only [E5, Bool.not_false, Bool.and_true, Bool.or_eq_false_iff, decide_eq_false_iff_not] at this
   exact List.eq_nil_of_length_eq_zero (by omega)
  refine .inr ⟨hc, ?_⟩
  rcases hk with rfl | rfl
  ·have : ks = [] := by
    have := hs.1
    simp [y7] at this
    exact this
   rw [this]; trivial
  ·simp only [D3, Bool.or_eq_true, Bool.and_eq_true, beq_iff_eq] at hv
   have hv' : bk2 ks = true := by
    rcases hv with (h | h) | h
    ·omega
    ·omega
    ·exact h.2
   exact bq5 hv' hs.2.2.1 hl.2.1
theorem bq5 : ∀ {ts : List Tm}, bk2 ts = true → shL ts → lcK ts → ncL ts
 | [], _, _, _ => trivial
 | t :: ts, hv, hs, hl => by
  simp only [bk2, Bool.and_eq_true] at hv
  exact ⟨aT4 hv.1 hs.1 hl.1, bq5 hv.2 hs.2 hl.2⟩
end
theorem as8 : ncT j7 := .inr ⟨rfl, trivial⟩
theorem bn1 {P : Program} {m : Nat} {T E : TypeId} {a b c d : Pu} : VImp P (.pu (.agg T [a, b, c, d, .sl 0 E []])) (.pu (.agg T [a, b, c, d, .sl m E []])) := fun C w x hx => by
 cases hx with
 | one h1 h2 =>
  refine .one (.pu ?_) h2
  have h := h1.pu_inv
  generalize x.cells.toList = z at h
  cases h with
  | agg hc h =>
   refine .agg hc ?_
   cases h with | cons p0 s0 t0 h =>
   cases h with | cons p1 s1 t1 h =>
   cases h with | cons p2 s2 t2 h =>
   cases h with | cons p3 s3 t3 h =>
   cases h with | cons p4 s4 t4 h =>
   cases h
   refine .cons p0 s0 t0 (.cons p1 s1 t1 (.cons p2 s2 t2 (.cons p3 s3 t3 (.cons ?_ s4 t4 .nil))))
   cases p4 with
   | sl0 => exact .sl0
   | sl hn => exact (hn rfl).elim
theorem bI1 : ∀ (N : Nat) (t : Tm), a8 t ≤ N → N < 2^30 → ncT t → FCallN Tryz.prog G 128 [.pu (tmc 0 t)] (fun m => .pu (tmc m (G3 t))) := by
 intro N
 induction N with
 | zero => intro t h; have := m8 t; omega
 | succ N ih =>
 intro t hp hN hnc
 obtain ⟨k, n, r, ks, cs⟩ := t
 simp only [a8] at hp
 have hlen := f9 ks
 refine FCallN.of_tri tbl 30 Tryz.func128 rfl rfl (fun _ => rfl) fun w0 M ρ0 D0 hM => ?_
 refine Y67 ?_;refine Y24 ?_;refine Y0 ?_;refine Cq ?_ ?_
 ·intro h0
  have hk : k = 3 := by simpa using h0
  have hfin : G3 (.mk k n r ks cs) = .mk 3 0 Z32 [.mk 2 0 Z32 [] []] [] := by rw [G3, if_pos hk]
  refine yR ?_;refine yP ?_;refine aU8 SS (lo := w0.heap.size) (ps := [tmc w0.heap.size (.mk 2 0 Z32 [] [])]) ?_;refine Y75 ?_;refine Rc ?_;exact (by rw [hfin]; exact ToPu.imp (by repeat constructor))
 ·intro h0
  have hk : ¬ k = 3 := by simpa using h0
  obtain ⟨hcs, hnk⟩ := hnc.resolve_left hk
  subst hcs
  have hfin : G3 (.mk k n r ks []) = .mk k n r (T4 ks) [] := by rw [G3, if_neg hk]
  refine Tri.skip ?_;refine Y14 ?_;refine Y8 ?_;refine yR ?_;refine Y83 ?_;refine Y1 ?_;refine Y43 ?_;refine Tri.block (Tri.loopW (σ := Nat) (fun i => ⟨[(1, .ptr 1 [] 32), (2, .ptr 2 [] 32), (15, .pu (.sl 0 32 (l8 0 ks))), (16, iv .i64 (l8 0 ks).length), (17, iv .i64 i)], [(1, .var 32 (.agg 32 [iv .i64 k, iv .i64 n, .pu (l4 r), .ow w0.heap.size 32 (l8 w0.heap.size (T4 (ks.take i))), .pu (.sl 0 106 [])])), (2, .var 32 (.agg 32 [iv .i64 0, iv .i64 0, .pu (l4 Z32), .nilc, .nilc]))]⟩) (fun i => ks.length - i) 0 ?_ ?_ (fun i => ?_))
  ·exact zk9
  ·exact zk9
  refine Y41 ?_;refine Cq ?_ ?_
  ·intro h1
   have hi : i < ks.length := by rw [a9] at h1; simpa using h1
   have hsz := o8 (List.getElem_mem hi)
   have hts : ∀ m, l8 m (T4 (ks.take (i + 1))) = l8 m (T4 (ks.take i)) ++ [tmc m (G3 ks[i])] := fun m => by
    rw [V6, V6, l6, l6, List.take_succ_eq_append_getElem hi, List.map_append, List.map_append]; rfl
   refine Y86 ?_;refine b5 (g9 SS (h0 := by omega) (hp := q7 hi)) ?_;refine yL ?_;refine aC5 ?_;refine Y14 ?_;refine yL ?_;refine b5 (z9 (fun m n h => (A0 h _).imp) (fun _ => ih ks[i] (by omega) (by omega) (bt8 hnk _ (List.getElem_mem hi)))) ?_;refine aU8 SS (lo := w0.heap.size) ?_;refine I2 1 [3] ?_ ?_
   ·simp [l6, V6]; omega
   refine Y94 ?_;refine Y33 ?_
   refine ⟨i + 1, by omega, i9 ?_ ?_⟩
   ·repeat (first | exact SubE.nil | refine SubE.cons rfl (by first | rfl | (rw [b7 (by omega) (by omega)]; rfl) | (rw [hts]; rfl)) ?_)
   ·repeat (first | exact SubH.nil | refine SubH.cons rfl (by first | rfl | (rw [b7 (by omega) (by omega)]; rfl) | (rw [hts]; rfl)) ?_)
  ·intro h1
   have hi : ks.length ≤ i := by rw [a9] at h1; simpa using h1
   rw [List.take_of_length_le hi];refine Tri.exit ?_;refine aq6 ?_;refine Rc ?_;exact (by rw [hfin]; exact VImp.trans (ToPu.imp (p := .agg 32 [.leaf (.int .i64 k), .leaf (.int .i64 n), l4 r, .sl w0.heap.size 32 (l8 w0.heap.size (T4 ks)), .sl 0 106 []]) (by repeat constructor)) bn1)
theorem aV0 : ∀ (N : Nat) (t : Tm), a8 t ≤ N → N < 2^30 → FCall Tryz.prog G 53 [.pu (tmc 0 t)] (.pu (tmc 0 (G3 t))) := by
 intro N
 induction N with
 | zero => intro t h; have := m8 t; omega
 | succ N ih =>
 intro t hp hN
 obtain ⟨k, n, r, ks, cs⟩ := t
 simp only [a8] at hp
 have hlen := f9 ks
 refine Fq 37 Tryz.func53 ?_;intro w0 M ρ0 D0
 refine Y67 ?_;refine Y24 ?_;refine Y0 ?_;refine Cq ?_ ?_
 ·intro h0
  have hk : k = 3 := by simpa using h0
  have hfin : G3 (.mk k n r ks cs) = .mk 3 0 Z32 [.mk 2 0 Z32 [] []] [] := by rw [G3, if_pos hk]
  refine yR ?_;refine yP ?_;refine aU8 SS (lo := 0) (ps := [tmc 0 (.mk 2 0 Z32 [] [])]) ?_;refine Y75 ?_;refine Rc ?_;exact (by rw [hfin]; exact ToPu.imp (by repeat constructor))
 ·intro h0
  have hk : ¬ k = 3 := by simpa using h0
  have hfin : G3 (.mk k n r ks cs) = .mk k n r (T4 ks) [] := by rw [G3, if_neg hk]
  refine Tri.skip ?_;refine Y13 ?_;refine Y70 ?_;refine yP ?_;refine b9 SS 3 ?_;refine yS ?_;refine b8 [3] ?_;refine Y10 ?_;refine Tri.block (Tri.loopW (σ := Nat) (fun i => ⟨[(1, .ptr 1 [] 32), (2, .ptr 2 [] 32), (3, .ptr 3 [] 32), (4, iv .i64 i)], [(1, .var 32 (.pu (tmc 0 (.mk k n r ks cs)))), (2, .var 32 (.agg 32 [iv .i64 0, iv .i64 0, .pu (l4 Z32), .nilc, .nilc])), (3, .var 32 (.agg 32 [iv .i64 k, iv .i64 n, .pu (l4 r), .ow 0 32 (l8 0 (T4 (ks.take i))), .nilc]))]⟩) (fun i => ks.length - i) 0 ?_ ?_ (fun i => ?_))
  ·exact zk9
  ·exact zk9
  refine Y93 ?_;refine Cq ?_ ?_
  ·intro h1
   have hi : i < ks.length := by rw [a9] at h1; simpa using h1
   have hsz := o8 (List.getElem_mem hi)
   have hts : ∀ m, l8 m (T4 (ks.take (i + 1))) = l8 m (T4 (ks.take i)) ++ [tmc m (G3 ks[i])] := fun m => by
    rw [V6, V6, l6, l6, List.take_succ_eq_append_getElem hi, List.map_append, List.map_append]; rfl
   refine Y20 ?_;refine Y14 ?_;refine Y68 ?_;refine b5 (g9 SS (h0 := by omega) (hp := q7 hi)) ?_;refine yL ?_;refine Dq (ih ks[i] (by omega) (by omega)) ?_;refine aU8 SS (lo := 0) ?_;refine I2 3 [3] ?_ ?_
   ·simp [l6, V6]; omega
   refine Y94 ?_;refine Y40 ?_
   refine ⟨i + 1, by omega, i9 ?_ ?_⟩
   ·repeat (first | exact SubE.nil | refine SubE.cons rfl (by first | rfl | (rw [b7 (by omega) (by omega)]; rfl) | (rw [hts]; rfl)) ?_)
   ·repeat (first | exact SubH.nil | refine SubH.cons rfl (by first | rfl | (rw [b7 (by omega) (by omega)]; rfl) | (rw [hts]; rfl)) ?_)
  ·intro h1
   have hi : ks.length ≤ i := by rw [a9] at h1; simpa using h1
   rw [List.take_of_length_le hi];refine Tri.exit ?_;refine aq6 ?_;refine Rc ?_;exact (by rw [hfin]; exact ToPu.imp (by repeat constructor))
mutual
theorem U7 : ∀ t : Tm, a8 (G3 t) ≤ 2 * a8 t
 | .mk k n r ks cs => by
  have := aH1 ks
  simp only [G3]
  split
  ·simp only [a8, d7, f6]; omega
  ·simp only [a8, f6]; omega
theorem aH1 : ∀ ts : List Tm, d7 (T4 ts) ≤ 2 * d7 ts
 | [] => by simp [T4, d7]
 | t :: ts => by
  have h1 := U7 t
  have h2 := aH1 ts
  have h3 := m8 t
  simp only [T4, d7]; omega
end
end
section
variable {G : List (Nat × TypeId × Pu)}
theorem aJ3 : ∀ (N : Nat) (t : Tm), a8 t ≤ N → Z9 (d0 t (c9 t)).kind (d0 t (c9 t)).kids = none
 | 0, t, h => by have := m8 t; omega
 | N + 1, .mk k n r ks cs, h => by
  have hpw := ae6 k n r ks cs
  cases hw : Z9 k ks with
  | none => rw [hw] at hpw; simp only at hpw; rw [hpw]; exact hw
  | some j =>
   obtain ⟨hj1, x, hx, hxv⟩ := ad4 hw
   rw [hw] at hpw
   simp only [hx] at hpw
   have hxs := o8 (List.mem_of_getElem? hx)
   simp only [a8] at h
   rw [hpw]
   simp only [d0, H5, hx]
   exact aJ3 N x (by omega)
theorem bB0 {t x : Tm} (hk : (d0 t (c9 t)).kind = 11) (hx : (d0 t (c9 t)).kids[0]? = some x) : D3 x = true := by
 have h := aJ3 _ t (Nat.le_refl _)
 rw [hk] at h
 unfold Z9 at h
 rw [show j9 11 (d0 t (c9 t)).kids.length = 1 from rfl] at h
 rw [List.findIdx?_eq_none_iff] at h
 have := h x (by
  cases hks : (d0 t (c9 t)).kids with
  | nil => rw [hks] at hx; simp at hx
  | cons a l => rw [hks] at hx; simp at hx; subst hx; simp)
 simpa using this
theorem bN3 {ts : List KT} {t : Tm} (h : y6 ts t (c9 t) = 9) : (d0 t (c9 t)).kind = 11 := (E3 (show z7 ts (l5 t (c9 t)) (c9 t).length (d0 t (c9 t)) = 9 from h)).2.2.2.2.2.2.2.2 rfl
theorem bN4 {ts : List KT} {t : Tm} : 1 ≤ y6 ts t (c9 t) ∧ y6 ts t (c9 t) ≤ 9 := (E3 (show z7 ts (l5 t (c9 t)) (c9 t).length (d0 t (c9 t)) = y6 ts t (c9 t) from rfl)).2.2.2.2.2.2.2.1
theorem bs9 {ts : List KT} {steps : Nat} {t : Tm} {e : EndM} (hs : shT t) (hl : lcT t) (h : T9 ts steps t = some e) : ncT e.term := by
 unfold T9 at h
 split at h
 ·rename_i hv
  simp at h; subst h; exact aT4 hv hs hl
 ·split at h
  ·rename_i h9
   simp at h; subst h
   simp only
   cases hk : (d0 t (c9 t)).kids[0]? with
   | none => exact as8
   | some x => exact aT4 (bB0 (bN3 h9) hk) (S6 (H3 hs) hk) (X5 (am0 hl) hk)
  ·split at h
   ·simp at h; subst h; exact as8
   ·cases h
theorem bK2 {ts : List KT} (hbs : ∀ x ∈ ts, shT x.2) (hbl : ∀ x ∈ ts, lcT x.2) : ∀ (left steps : Nat) (t : Tm), shT t → lcT t → ncT (u4 ts left steps t).1.term
 | 0, steps, t, hs, hl => by
  simp only [u4]
  split
  ·rename_i e he; exact bs9 hs hl he
  ·exact as8
 | left + 1, steps, t, hs, hl => by
  simp only [u4]
  split
  ·rename_i e he; exact bs9 hs hl he
  ·split
   ·exact as8
   ·exact bK2 hbs hbl left (steps + 1) (n5 ts t) (aX4 hbs hs (F7 hs) _) (bv7 hbl hl (F7 hs) _)
theorem aH5 {ts : List KT} {t : Tm} (fuel : Int) : ncT (F9 ts t fuel).1.term ∧ a8 (F9 ts t fuel).1.term ≤ 3000 := by
 have hn1 : a8 j7 = 1 := by simp [j7, a8, d7, f6]
 have hZ : ncT endZ.term ∧ a8 endZ.term ≤ 3000 := ⟨as8, by simp only [endZ]; omega⟩
 unfold F9
 split
 ·rename_i hc
  obtain ⟨_, k2, _, k4⟩ := w8 hc
  have h1 := bK2 (fun x hx => (r7 (k2 x hx)).1) (fun x hx => au6 (k2 x hx)) fuel.toNat 0 t (r7 k4).1 (au6 k4)
  have h2 := (aD3 (fun x hx => (r7 (k2 x hx)).1) fuel.toNat 0 t (r7 k4).1 (by have := (r7 k4).2; omega)).2
  split
  ·exact hZ
  ·split
   ·split
    ·exact ⟨h1, h2⟩
    ·split
     ·exact ⟨h1, h2⟩
     ·exact hZ
   ·exact hZ
 ·exact hZ
theorem bP3 {D : Nat → Nat → Prop} {w : World} {e : EndM} {x : List Value} (h : PR Tryz.prog D w (bo9 e) x) : e.ref.length = 32 := by
 obtain ⟨_, h⟩ := Z7 h
 obtain ⟨_, _, _, h⟩ := n8 h
 obtain ⟨_, _, _, h⟩ := n8 h
 obtain ⟨_, _, _, h⟩ := n8 h
 obtain ⟨⟨_, h⟩, _⟩ := n8 h
 exact R3 h
theorem bs1 (e : EndM) (hnc : ncT e.term) (hz : a8 e.term < 2^30) : FCall Tryz.prog G 127 [.pu (bo9 e)] (.pu (tmc 0 (G3 e.term))) := by
 obtain ⟨ek, es, et, er, en⟩ := e
 refine Fq 6 Tryz.func127 ?_;intro w0 M ρ0 D0
 refine Y67 ?_;refine Y13 ?_;refine Dq ((bI1 _ et (Nat.le_refl _) hz hnc).at (aK7 _)) ?_;refine Y23 ?_;refine Rc ?_;exact ToPu.imp (by repeat constructor)
def ah5 (a b : Int) : Pu := .agg 193 [.leaf (.int .i64 a), .leaf (.int .i64 b)]
instance (a b : Int) : TyV Tryz.prog 193 (.pu (ah5 a b)) := inferInstanceAs (TyV Tryz.prog 193 (.pu (.agg _ _)))
theorem by2 (a b a' b' : Int) : Tryz.prog.eqGuardType Tryz.prog.depth 193 = false ∧ 193 < Tryz.prog.types.size ∧ tyP Tryz.prog 193 (ah5 a b) = true ∧ tyP Tryz.prog 193 (ah5 a' b') = true :=
 ⟨by kernel_rfl, of_decide_eq_true (by kernel_rfl), (show tyV Tryz.prog 193 (.pu (ah5 a b)) = true from TyV.ok), (show tyV Tryz.prog 193 (.pu (ah5 a' b')) = true from TyV.ok)⟩
theorem bL6 (d : Nat) (a b a' b' : Int) : peqT Tryz.prog (d + 2) 193 (ah5 a b) (ah5 a' b') = some ((a == a') && ((b == b') && true)) := by
 have hu : Tryz.prog.underlying 193 = some (.array 2 3) := by kernel_rfl
 have hi : Tryz.prog.underlying 3 = some (.int .i64) := by kernel_rfl
 unfold ah5
 simp only [peqT, hu, aN6, hi, if_true]
theorem bZ0 (a b a' b' : Int) : M2 Tryz.prog .eql 193 (.pu (ah5 a b)) (.pu (ah5 a' b')) = some (bv ((a == a') && ((b == b') && true))) := by
 have h1 := by2 a b a' b'
 have h2 := fun e => bL6 e a b a' b'
 unfold ah5 at h1 h2 ⊢
 simp only [M2, if_pos h1]
 generalize hd : (100 : Nat) = d
 obtain ⟨e, rfl⟩ : ∃ e, d = e + 2 := ⟨98, by omega⟩
 rw [h2 e]
def ay1 (a b : EndM) : Bool := ((a.kind == b.kind) && ((a.num == b.num) && true)) && (a.ref == b.ref) && C7 (G3 a.term) (G3 b.term)
def as0 (ts : List KT) (t u : Tm) (fuel : Int) : Bool × Int :=
 if d3 ts t = 0 then (if d3 ts u = 0 then (if (F9 ts t fuel).2 = 0 then (if (F9 ts u fuel).2 = 0 then (ay1 (F9 ts t fuel).1 (F9 ts u fuel).1, 0) else (false, (F9 ts u fuel).2)) else (false, (F9 ts t fuel).2)) else (false, d3 ts u)) else (false, d3 ts t)
abbrev bb5 (x : Bool × Int) : PV := .tup [bv x.1, iv .i64 x.2]
set_option maxHeartbeats 1000000 in
theorem cd6 (a b : Pu) (ts : List KT) (t u : Tm) (fuel : Int) (hts : ∀ x ∈ ts, a8 x.2 < 2^40) (hN : a8 t < 2^40) (hM : a8 u < 2^40) : FCall Tryz.prog G 56 [.pu (wdP a b ts), .pu (tmc 0 t), .pu (tmc 0 u), iv .i64 fuel] (bb5 (as0 ts t u fuel)) := by
 refine Fq 79 Tryz.func56 ?_;intro w0 M ρ0 D0
 refine yR ?_;refine p7 SS 4 ?_;refine p7 SS 5 ?_;refine p7 SS 6 ?_;refine yB ?_;refine yB ?_;refine b8 [4, 5, 6] ?_;refine Y22 ?_;refine yZ ?_;refine Y43 ?_;refine Tri.block (Tri.loopW (σ := {i : Nat // i ≤ 2 ∧ (1 ≤ i → d3 ts t = 0) ∧ (2 ≤ i → d3 ts u = 0)}) (fun i => ⟨[(3, iv .i64 fuel), (4, .ptr 4 [] 26), (5, .ptr 5 [] 32), (6, .ptr 6 [] 32), (19, .pu (.sl 0 32 [tmc 0 t, tmc 0 u])), (20, iv .i64 2), (21, iv .i64 i.1)], [(4, .var 26 (.pu (wdP a b ts))), (5, .var 32 (.pu (tmc 0 t))), (6, .var 32 (.pu (tmc 0 u)))]⟩) (fun i => 2 - i.1) ⟨0, by omega, by omega, by omega⟩ ?_ ?_ (fun i => ?_))
 ·exact zW
 ·exact zW
 obtain ⟨i, hi2, hi0, hi1⟩ := i
 dsimp only at hi2 hi0 hi1 ⊢
 refine Y41 ?_;refine Cq ?_ ?_
 ·intro h0
  have hlt : i < 2 := by have := of_decide_eq_true h0; omega
  obtain ⟨x, hx, hxz, hxs⟩ : ∃ x, [tmc 0 t, tmc 0 u][i]? = some (tmc 0 x) ∧ a8 x < 2^40 ∧ (x = t ∧ i = 0 ∨ x = u ∧ i = 1) := by
   obtain rfl | rfl : i = 0 ∨ i = 1 := by omega
   ·exact ⟨t, rfl, hN, .inl ⟨rfl, rfl⟩⟩
   ·exact ⟨u, rfl, hM, .inr ⟨rfl, rfl⟩⟩
  refine Y86 ?_;refine Xq hx ?_;refine yL ?_;refine b9 SS 11 ?_;refine yS ?_;refine b8 [11] ?_;refine Y22 ?_;refine Dq (G6 a b ts x hts hxz) ?_;refine Y52 ?_;refine Cq ?_ ?_
  ·intro h1
   have hne : ¬ d3 ts x = 0 := by simpa using h1
   have hfin : as0 ts t u fuel = (false, d3 ts x) := by
    rcases hxs with ⟨rfl, rfl⟩ | ⟨rfl, rfl⟩
    ·rw [as0, if_neg hne]
    ·rw [as0, if_pos (hi0 (by omega)), if_neg hne]
   refine Y1 ?_;refine yB ?_;refine Y2 ?_;exact Tri.ret ⟨.inr rfl, q8 rfl b4 ((by rw [hfin]; exact VImp.refl _)) b4 ((by rw [hfin]; exact VImp.refl _))⟩
  ·intro h1
   have heq : d3 ts x = 0 := by simpa using h1
   have hnext : i + 1 ≤ 2 ∧ (1 ≤ i + 1 → d3 ts t = 0) ∧ (2 ≤ i + 1 → d3 ts u = 0) := by
    rcases hxs with ⟨rfl, rfl⟩ | ⟨rfl, rfl⟩
    ·exact ⟨by omega, fun _ => heq, fun h => by omega⟩
    ·exact ⟨by omega, fun _ => hi0 (by omega), fun _ => heq⟩
   refine Y66 ?_
   refine ⟨⟨i + 1, hnext⟩, by show 2 - (i + 1) < 2 - i; omega, i9 ?_ ?_⟩
   ·exact zE
   ·exact zH
 ·intro h0
  have hge : 2 ≤ i := by have := of_decide_eq_false h0; omega
  have ht := hi0 (by omega)
  have hu := hi1 hge
  have hr1 := bI6 (G := G) a b ts t fuel hts hN
  have hr2 := bI6 (G := G) a b ts u fuel hts hM
  have hk1 := aH5 (ts := ts) (t := t) fuel
  have hk2 := aH5 (ts := ts) (t := u) fuel
  have hsm : as0 ts t u fuel = if (F9 ts t fuel).2 = 0 then (if (F9 ts u fuel).2 = 0 then (ay1 (F9 ts t fuel).1 (F9 ts u fuel).1, 0) else (false, (F9 ts u fuel).2)) else (false, (F9 ts t fuel).2) := by rw [as0, if_pos ht, if_pos hu]
  generalize F9 ts t fuel = R1 at hr1 hk1 hsm
  generalize F9 ts u fuel = R2 at hr2 hk2 hsm
  obtain ⟨⟨k1, s1, t1, f1, n1⟩, r1⟩ := R1
  obtain ⟨⟨k2, s2, t2, f2, n2⟩, r2⟩ := R2
  dsimp only at hk1 hk2 hsm
  refine Tri.exit ?_;refine Y22 ?_;refine yM ?_;refine Dq hr1 ?_;refine Y28 ?_;refine b9 SS 13 ?_;refine yS ?_;refine yA ?_;refine b8 [13] ?_;refine Tri.fact (i := 37) rfl (fun D w x h => bP3 h) (fun hw1 => ?_);refine Y30 ?_;refine Cq ?_ ?_
  ·intro h2
   have hne : ¬ r1 = 0 := by simpa using h2
   rw [if_neg hne] at hsm
   refine Y1 ?_;refine yB ?_;refine Y2 ?_;exact Tri.ret ⟨.inr rfl, q8 rfl b4 ((by rw [hsm]; exact VImp.refl _)) b4 ((by rw [hsm]; exact VImp.refl _))⟩
  ·intro h2
   have he1 : r1 = 0 := by simpa using h2
   rw [if_pos he1] at hsm
   refine Tri.skip ?_;refine Y22 ?_;refine yM ?_;refine Dq hr2 ?_;refine Y28 ?_;refine b9 SS 15 ?_;refine yS ?_;refine yA ?_;refine b8 [15] ?_;refine Tri.fact (i := 47) rfl (fun D w x h => bP3 h) (fun hw2 => ?_);refine Y30 ?_;refine Cq ?_ ?_
   ·intro h3
    have hne : ¬ r2 = 0 := by simpa using h3
    rw [if_neg hne] at hsm
    refine Y1 ?_;refine yB ?_;refine Y2 ?_;exact Tri.ret ⟨.inr rfl, q8 rfl b4 ((by rw [hsm]; exact VImp.refl _)) b4 ((by rw [hsm]; exact VImp.refl _))⟩
   ·intro h3
    have he2 : r2 = 0 := by simpa using h3
    rw [if_pos he2] at hsm
    have hz1 := U7 t1
    have hz2 := U7 t2
    refine Tri.skip ?_;refine Y21 ?_;refine Y13 ?_;refine Y5 ?_;refine yP ?_;refine Y70 ?_;refine yP ?_;refine b5 (D4 SS (h := bZ0 _ _ _ _)) ?_;refine Y39 ?_;refine f7 zG (D4 SS (h := U6 (hw1.trans hw2.symm))) ?_;refine yN ?_;refine Y69 ?_;refine xL ?_;refine f7 zG (p6 (fun _ => bs1 ⟨k1, s1, t1, f1, n1⟩ hk1.1 (by dsimp only; omega))) ?_;refine xM ?_;refine xL ?_;refine f7 zG (p6 (fun _ => bs1 ⟨k2, s2, t2, f2, n2⟩ hk2.1 (by dsimp only; omega))) ?_;refine f7 zG (c8 (fun _ => bG7 _ (G3 t1) (G3 t2) (Nat.le_refl _) (by omega) (by omega))) ?_;refine yN ?_;refine yA ?_;refine yB ?_;refine Y42 ?_
    exact Tri.ret ⟨.inr rfl, q8 rfl b4 ((by rw [hsm]; exact m0 rfl)) b4 ((by rw [hsm]; exact VImp.refl _))⟩
def X3 (t : Tm) : Tm × Int := if n6 t 0 0 = 0 then (if D3 t = true then (G3 t, 0) else (j7, 6)) else (j7, n6 t 0 0)
theorem bl3 (t : Tm) (hN : a8 t < 2^40) : FCallN Tryz.prog G 57 [.pu (tmc 0 t)] (fun m => aG8 m (X3 t)) := by
 refine FCallN.of_tri tbl 17 Tryz.func57 rfl rfl (fun _ => rfl) fun w0 M ρ0 D0 hM => ?_
 refine Y64 ?_;refine yB ?_;refine b8 [1, 2] ?_;refine Y4 ?_;refine Dq (aF0 t hN 0 0) ?_;refine Y52 ?_;refine Cq ?_ ?_
 ·intro h0
  have h0' : ¬ n6 t 0 0 = 0 := by simpa using h0
  have hfin : X3 t = (j7, n6 t 0 0) := by rw [X3, if_neg h0']
  refine Y51 ?_;refine yM ?_;refine yS ?_;refine Y2 ?_;exact Tri.ret ⟨.inr rfl, q8 rfl j6 ((by rw [hfin]; exact ToPu.imp (by unfold j7; repeat constructor))) b4 ((by rw [hfin]; exact VImp.refl _))⟩
 ·intro h0
  have h0' : n6 t 0 0 = 0 := by simpa using h0
  obtain ⟨k5, k6⟩ := r7 h0'
  refine Y72 ?_;refine Dq (ad7 _ t (Nat.le_refl _) (by omega)) ?_;refine Y98 ?_;refine Cq ?_ ?_
  ·intro h1
   have h1' : ¬ D3 t = true := by simpa using h1
   have hfin : X3 t = (j7, 6) := by rw [X3, if_pos h0', if_neg h1']
   refine ay4 ?_;exact Tri.ret ⟨.inr rfl, q8 rfl j6 ((by rw [hfin]; exact ToPu.imp (by unfold j7; repeat constructor))) b4 ((by rw [hfin]; exact VImp.refl _))⟩
  ·intro h1
   have h1' : D3 t = true := by simpa using h1
   have hfin : X3 t = (G3 t, 0) := by rw [X3, if_pos h0', if_pos h1']
   refine Y72 ?_;refine b5 (z9 (fun m n h => (A0 h _).imp) (fun _ => bI1 _ t (Nat.le_refl _) (by omega) (aT4 h1' k5 (au6 h0')))) ?_;refine Y56 ?_;exact Tri.ret ⟨.inr rfl, q8 rfl j6 ((by rw [hfin]; exact VImp.refl _)) b4 ((by rw [hfin]; exact VImp.refl _))⟩
end
section
variable {G : List (Nat × TypeId × Pu)}
def V8 (e : EndM) : Pu := .agg 87 [.leaf (.int .i64 e.kind), .leaf (.int .i64 e.steps), tmc 0 e.term, l4 e.ref, .leaf (.int .i64 e.num)]
instance (e : EndM) : TyV Tryz.prog 87 (.pu (V8 e)) := inferInstanceAs (TyV Tryz.prog 87 (.pu (.agg _ _)))
theorem aV4 {D : Nat → Nat → Prop} {w : World} {e : EndM} {x : List Value} (h : PR Tryz.prog D w (V8 e) x) : e.ref.length = 32 := by
 obtain ⟨_, h⟩ := Z7 h
 obtain ⟨_, _, _, h⟩ := n8 h
 obtain ⟨_, _, _, h⟩ := n8 h
 obtain ⟨_, _, _, h⟩ := n8 h
 obtain ⟨⟨_, h⟩, _⟩ := n8 h
 exact R3 h
def bb9 (x : EndM × Int) : EndM × Int := if x.2 = 0 then (if (m2 300 60 1 0 x.1.term).1 = true then (endZ, 11) else (x.1, 0)) else (endZ, x.2)
def aH6 (ts : List KT) (t : Tm) (fuel : Int) : EndM × Int := if fuel < 0 ∨ 2000 < fuel then (endZ, 3) else bb9 (u4 ts fuel.toNat 0 t)
abbrev ci3 (x : EndM × Int) : PV := .tup [.pu (V8 x.1), iv .i64 x.2]
set_option maxHeartbeats 4000000 in
theorem bJ1 (a b : Pu) (ts : List KT) (hts : ts.length < 2^40) (hb : ∀ x ∈ ts, gdT 0 x.2 ∧ a8 x.2 ≤ 300) (t0 : Tm) (hg : gdT 0 t0) (hN : a8 t0 ≤ 3000) (fuel : Int) :
  FCall Tryz.prog G 54 [.pu (wdP a b ts), .pu (tmc 0 t0), iv .i64 fuel] (ci3 (aH6 ts t0 fuel)) := by
 have hn1 : a8 j7 = 1 := by simp [j7, a8, d7, f6]
 refine Fq 89 Tryz.func54 ?_;intro w0 M ρ0 D0
 refine Y89 ?_;refine b9 SS 6 ?_;refine yB ?_;refine b8 [3, 4, 6] ?_;refine Y58 ?_;refine Y92 ?_;refine Cq ?_ ?_
 ·intro h0
  have hfin : aH6 ts t0 fuel = (endZ, 3) := by rw [aH6, if_pos (by simpa using h0)]
  refine ay4 ?_;exact Tri.ret ⟨.inr rfl, q8 rfl j6 ((by rw [hfin]; exact ToPu.imp (by unfold endZ j7; repeat constructor))) b4 ((by rw [hfin]; exact VImp.refl _))⟩
 ·intro h0
  have hm0 : ¬ (fuel < 0 ∨ 2000 < fuel) := by simp at h0; omega
  obtain ⟨fl, hfl⟩ : ∃ fl : Nat, fuel = fl := ⟨fuel.toNat, by omega⟩
  subst hfl
  have hst : aH6 ts t0 fl = bb9 (u4 ts fl 0 t0) := by rw [aH6, if_neg hm0, Int.toNat_natCast]
  refine Y45 ?_;refine Tri.block (Tri.loopW (σ := {q : Nat × Tm // q.1 ≤ fl ∧ u4 ts fl 0 t0 = u4 ts (fl - q.1) q.1 q.2 ∧ gdT 0 q.2 ∧ a8 q.2 ≤ 3000}) (fun i => ⟨[(2, iv .i64 fl), (8, iv .i64 i.1.1), (3, .ptr 3 [] 26), (4, .ptr 4 [] 32), (6, .ptr 6 [] 87)], [(3, .var 26 (.pu (wdP a b ts))), (4, .var 32 (.pu (tmc 0 i.1.2))), (6, .var 87 (.agg 87 [iv .i64 0, iv .i64 0, .agg 32 [iv .i64 0, iv .i64 0, .pu (l4 Z32), .nilc, .nilc], .pu (l4 Z32), iv .i64 0]))]⟩) (fun i => fl - i.1.1) ⟨(0, t0), Nat.zero_le _, rfl, hg, hN⟩ ?_ ?_ (fun i => ?_))
  ·exact zW
  ·exact zW
  refine Y84 ?_
  obtain ⟨⟨st, t⟩, hsl, hrn, hgt, hzt⟩ := i
  dsimp only at hsl hrn hgt hzt ⊢
  rw [hrn] at hst
  have hok := F7 (ab1 hgt)
  have hnx := aD2 (G := G) a b ts hts t hgt (by omega)
  obtain ⟨kd, p, hkp, h0v, h1v⟩ := ai3 ts t
  rw [hkp] at hnx
  refine Y22 ?_;refine Dq hnx ?_;refine Y80 ?_;refine Y17 ?_;refine yP ?_;refine b9 SS 11 ?_;refine yS ?_;refine b8 [11] ?_;refine Y84 ?_;refine Y76 ?_;refine Cq ?_ ?_
  ·intro h1
   have e0 : kd = 0 := by simpa using h1
   have hv := h0v e0
   subst e0
   have hre : u4 ts (fl - st) st t = (⟨0, st, t, Z32, 0⟩, 0) := ac0 (by simp only [T9, hv, if_true])
   have hri := ab9 (G := G) t (by omega)
   rw [hre, bb9, if_pos rfl] at hst
   dsimp only at hst
   generalize (m2 300 60 1 0 t).1 = lb at hri hst
   refine Y4 ?_;refine Y83 ?_;refine Y13 ?_;refine Dq hri ?_;refine Y52 ?_;refine Cq ?_ ?_
   ·intro h6
    have hlb : lb = true := by cases lb <;> simp at h6 ⊢
    subst hlb
    rw [if_pos rfl] at hst
    refine Y51 ?_;refine yM ?_;refine yS ?_;refine Y2 ?_;exact Tri.ret ⟨.inr rfl, q8 rfl j6 ((by rw [hst]; exact ToPu.imp (by unfold endZ j7; repeat constructor))) b4 ((by rw [hst]; exact VImp.refl _))⟩
   ·intro h6
    have hlb : lb = false := by cases lb <;> simp at h6 ⊢
    subst hlb
    rw [if_neg (by decide)] at hst
    refine Y72 ?_;refine Y56 ?_;exact Tri.ret ⟨.inr rfl, q8 rfl j6 ((by rw [hst]; exact ToPu.imp (by repeat constructor))) b4 ((by rw [hst]; exact VImp.refl _))⟩
  ·intro h1
   obtain ⟨hv, hk, hp⟩ := h1v (by simpa using h1)
   subst hp
   have hv' : ¬ D3 t = true := by rw [hv]; decide
   refine Y76 ?_;refine Cq ?_ ?_
   ·intro h2
    have e9 : kd = 9 := by simpa using h2
    subst e9
    have hk11 := bN3 hk
    have hwg := aL3 hgt
    have hws := t5 (t := t) (p := c9 t)
    obtain ⟨x, hx⟩ := aN7 (ab1 hwg) (.inr (.inr hk11))
    have hxz := o4 hx
    have hat := aI4 (G := G) t (c9 t) hok (by have := I1 hok; omega)
    have hre : u4 ts (fl - st) st t = (⟨9, st, x, (d0 t (c9 t)).ref, (d0 t (c9 t)).num⟩, 0) := ac0 (by simp only [T9, if_neg hv', hk, if_true, hx, Option.getD])
    generalize d0 t (c9 t) = w at hx hre hat hxz hws
    obtain ⟨k, n, r, ks, cs⟩ := w
    simp only [H5, av9, aw6] at hx hre
    have hxg : (l8 0 ks)[0]? = some (tmc 0 x) := by simp [l6, hx]
    have hri := ab9 (G := G) x (by omega)
    rw [hre, bb9, if_pos rfl] at hst
    dsimp only at hst
    generalize (m2 300 60 1 0 x).1 = lb at hri hst
    refine Y65 ?_;refine Dq hat ?_;refine b9 SS 12 ?_;refine yS ?_;refine b8 [12] ?_;refine Y14 ?_;refine Xq hxg ?_;refine yL ?_;refine Y70 ?_;refine yF ?_;refine yS ?_;refine yF ?_;refine yS ?_;refine yF ?_;refine yS ?_;refine J2 ?_;refine Y13 ?_;refine Dq hri ?_;refine Y52 ?_;refine Cq ?_ ?_
    ·intro h6
     have hlb : lb = true := by cases lb <;> simp at h6 ⊢
     subst hlb
     rw [if_pos rfl] at hst
     refine Y51 ?_;refine yM ?_;refine yS ?_;refine Y2 ?_;exact Tri.ret ⟨.inr rfl, q8 rfl j6 ((by rw [hst]; exact ToPu.imp (by unfold endZ j7; repeat constructor))) b4 ((by rw [hst]; exact VImp.refl _))⟩
    ·intro h6
     have hlb : lb = false := by cases lb <;> simp at h6 ⊢
     subst hlb
     rw [if_neg (by decide)] at hst
     refine Y72 ?_;refine Y56 ?_;exact Tri.ret ⟨.inr rfl, q8 rfl j6 ((by rw [hst]; exact ToPu.imp (by repeat constructor))) b4 ((by rw [hst]; exact VImp.refl _))⟩
   ·intro h2
    have h9 : ¬ kd = 9 := by simpa using h2
    refine Y76 ?_;refine Cq ?_ ?_
    ·intro h3
     have e8 : kd = 8 := by simpa using h3
     subst e8
     have hre : u4 ts (fl - st) st t = (⟨8, st, j7, Z32, 0⟩, 0) := ac0 (by simp only [T9, if_neg hv', hk]; rfl)
     have hri := ab9 (G := G) j7 (by omega)
     rw [hre, bb9, if_pos rfl] at hst
     dsimp only at hst
     generalize (m2 300 60 1 0 j7).1 = lb at hri hst
     unfold j7 at hri hst
     refine Tri.skip ?_;refine Y13 ?_;refine Dq hri ?_;refine Y52 ?_;refine Cq ?_ ?_
     ·intro h6
      have hlb : lb = true := by cases lb <;> simp at h6 ⊢
      subst hlb
      rw [if_pos rfl] at hst
      refine Y51 ?_;refine yM ?_;refine yS ?_;refine Y2 ?_;exact Tri.ret ⟨.inr rfl, q8 rfl j6 ((by rw [hst]; exact ToPu.imp (by unfold endZ j7; repeat constructor))) b4 ((by rw [hst]; exact VImp.refl _))⟩
     ·intro h6
      have hlb : lb = false := by cases lb <;> simp at h6 ⊢
      subst hlb
      rw [if_neg (by decide)] at hst
      refine Y72 ?_;refine Y56 ?_;exact Tri.ret ⟨.inr rfl, q8 rfl j6 ((by rw [hst]; exact ToPu.imp (by repeat constructor))) b4 ((by rw [hst]; exact VImp.refl _))⟩
    ·intro h3
     have h8 : ¬ kd = 8 := by simpa using h3
     have hre0 : T9 ts st t = none := by simp only [T9, if_neg hv', hk, if_neg h9, if_neg h8]
     refine Y62 ?_;refine Y2 ?_;refine Cq ?_ ?_
     ·intro h4
      have esf : st = fl := by simp at h4; omega
      have hre : u4 ts (fl - st) st t = (⟨10, st, j7, Z32, 0⟩, 0) := by rw [show fl - st = 0 by omega]; simp only [u4, hre0]
      have hri := ab9 (G := G) j7 (by omega)
      rw [hre, bb9, if_pos rfl] at hst
      dsimp only at hst
      generalize (m2 300 60 1 0 j7).1 = lb at hri hst
      unfold j7 at hri hst
      refine yR ?_;refine Y83 ?_;refine Y13 ?_;refine Dq hri ?_;refine Y52 ?_;refine Cq ?_ ?_
      ·intro h6
       have hlb : lb = true := by cases lb <;> simp at h6 ⊢
       subst hlb
       rw [if_pos rfl] at hst
       refine Y51 ?_;refine yM ?_;refine yS ?_;refine Y2 ?_;exact Tri.ret ⟨.inr rfl, q8 rfl j6 ((by rw [hst]; exact ToPu.imp (by unfold endZ j7; repeat constructor))) b4 ((by rw [hst]; exact VImp.refl _))⟩
      ·intro h6
       have hlb : lb = false := by cases lb <;> simp at h6 ⊢
       subst hlb
       rw [if_neg (by decide)] at hst
       refine Y72 ?_;refine Y56 ?_;exact Tri.ret ⟨.inr rfl, q8 rfl j6 ((by rw [hst]; exact ToPu.imp (by repeat constructor))) b4 ((by rw [hst]; exact VImp.refl _))⟩
     ·intro h4
      have hsf : st < fl := by simp at h4; omega
      have h19 := bN4 (ts := ts) (t := t)
      rw [hk] at h19
      have haf := aI5 (G := G) a b ts hts t (c9 t) hgt hok (N5 t) hzt (W6 _ t (Nat.le_refl _)) (fun x hx => ⟨(hb x hx).1, by have := (hb x hx).2; omega⟩) kd hk (by omega)
      have hyz := au3 (fun x hx => (hb x hx).2) hok hzt kd
      have hyg := aX5 hgt hok (N5 t) (by omega) (fun x hx => (hb x hx).1) hk (by omega)
      have hne : r5 ts t (c9 t) kd = n5 ts t := by unfold n5; rw [hk]
      rw [hne] at haf hyz hyg
      have hex := av8 (G := G) _ (n5 ts t) (Nat.le_refl _) (by omega) 3400 (by omega)
      have hlo := aL9 (mn := 3000) (md := 200) (most := 3400) (n5 ts t) (by omega)
      have hlz := Q5 (mn := 3000) (md := 200) (t := n5 ts t) (d := 1) (c := 0) (by omega)
      obtain ⟨lf, hlf⟩ : ∃ lf, fl - st = lf + 1 := ⟨fl - st - 1, by omega⟩
      have hr2 : u4 ts (lf + 1) st t = if (m2 3000 200 1 0 (n5 ts t)).1 = true then (endZ, 12) else u4 ts lf (st + 1) (n5 ts t) := by simp only [u4, hre0]
      rw [hlf, hr2] at hst
      rw [hlf, hr2] at hrn
      generalize (m2 3000 200 1 0 (n5 ts t)).1 = lb at hlo hlz hst hrn
      refine Y22 ?_;refine Y48 ?_;refine Dq haf ?_;refine Y16 ?_;refine Y40 ?_;refine Y4 ?_;refine Dq hex ?_;refine Y80 ?_;refine Y58 ?_;refine Y92 ?_;refine Cq ?_ ?_
      ·intro h5
       have hlb : lb = true := by rw [← hlo]; simpa using h5
       subst hlb
       rw [if_pos rfl, bb9, if_neg (by decide)] at hst
       refine ay4 ?_;exact Tri.ret ⟨.inr rfl, q8 rfl j6 ((by rw [hst]; exact ToPu.imp (by unfold endZ j7; repeat constructor))) b4 ((by rw [hst]; exact VImp.refl _))⟩
      ·intro h5
       have hlb : lb = false := by rw [← hlo]; simpa using h5
       subst hlb
       rw [if_neg (by decide)] at hrn
       have hz9 := hlz rfl
       have hnext : st + 1 ≤ fl ∧ u4 ts fl 0 t0 = u4 ts (fl - (st + 1)) (st + 1) (n5 ts t) ∧ gdT 0 (n5 ts t) ∧ a8 (n5 ts t) ≤ 3000 := ⟨by omega, by rw [hrn, show fl - (st + 1) = lf by omega], hyg, by omega⟩
       refine Tri.skip ?_;refine Tri.exit ?_
       refine ⟨⟨(st + 1, n5 ts t), hnext⟩, by show fl - (st + 1) < fl - st; omega, i9 ?_ ?_⟩
       ·exact zE
       ·exact zH
theorem bR4 (a b : EndM) : ay1 a b = ((a.kind == b.kind) && (a.ref == b.ref) && (a.num == b.num) && C7 (G3 a.term) (G3 b.term)) := by
 unfold ay1
 cases (a.kind == b.kind) <;> cases (a.num == b.num) <;> cases (a.ref == b.ref) <;> rfl
theorem bK4 (e1 e2 : EndM) (hz1 : a8 e1.term < 2^28) (hz2 : a8 e2.term < 2^28) : FCall Tryz.prog G 55 [.pu (V8 e1), .pu (V8 e2)] (bv (ay1 e1 e2)) := by
 rw [bR4]
 obtain ⟨k1, s1, t1, f1, n1⟩ := e1
 obtain ⟨k2, s2, t2, f2, n2⟩ := e2
 dsimp only at hz1 hz2 ⊢
 have q1 := U7 t1
 have q2 := U7 t2
 refine Fq 33 Tryz.func55 ?_;intro w0 M ρ0 D0
 refine Tri.fact (i := 0) rfl (fun D w x h => aV4 h) (fun hw1 => ?_);refine Tri.fact (i := 1) rfl (fun D w x h => aV4 h) (fun hw2 => ?_)
 dsimp only at hw1 hw2
 refine Y91 ?_;refine Y13 ?_;refine Y54 ?_;refine Y39 ?_;refine f7 zG (D4 SS (h := U6 (hw1.trans hw2.symm))) ?_;refine yN ?_;refine Y39 ?_;refine Y53 ?_;refine Y12 ?_;refine f7 zG (c8 (fun _ => aV0 _ t1 (Nat.le_refl _) (by omega))) ?_;refine Y6 ?_;refine f7 zG (c8 (fun _ => aV0 _ t2 (Nat.le_refl _) (by omega))) ?_;refine f7 zG (c8 (fun _ => bI9 _ (G3 t1) (G3 t2) (Nat.le_refl _) (by omega) (by omega))) ?_;refine yN ?_;refine yA ?_;refine Y42 ?_;refine Rq ?_;exact m0 rfl
theorem cf5 (e : EndM) : FCall Tryz.prog G 130 [.pu (V8 e)] (.pu (bo9 e)) := by
 obtain ⟨k1, s1, t1, f1, n1⟩ := e
 refine Fq 14 Tryz.func130 ?_;intro w0 M ρ0 D0
 refine Y67 ?_;refine Y13 ?_;refine Y70 ?_;refine Y70 ?_;refine Y75 ?_;refine Rc ?_;exact ToPu.imp (by repeat constructor)
end
section
variable {G : List (Nat × TypeId × Pu)}
theorem bj9 {D : Nat → Nat → Prop} {w : World} {lo lo' : Nat} {E : TypeId} {x : List Value} (h : PR Tryz.prog D w (.sl lo E []) x) : PR Tryz.prog D w (.sl lo' E []) x := by
 cases h with
 | sl0 => exact .sl0
 | sl hn => exact (hn rfl).elim
theorem bM0 {D : Nat → Nat → Prop} {w : World} {m : Nat} {x : List Value} (h : PR Tryz.prog D w (tmc 0 j7) x) : PR Tryz.prog D w (tmc m j7) x := by
 unfold j7 at h ⊢
 cases h with
 | agg hc h =>
  refine .agg hc ?_
  cases h with | cons p0 s0 t0 h =>
  cases h with | cons p1 s1 t1 h =>
  cases h with | cons p2 s2 t2 h =>
  cases h with | cons p3 s3 t3 h =>
  cases h with | cons p4 s4 t4 h =>
  cases h
  exact .cons p0 s0 t0 (.cons p1 s1 t1 (.cons p2 s2 t2 (.cons (bj9 p3) s3 t3 (.cons (bj9 p4) s4 t4 .nil))))
def Z3 (m : Nat) (e : EndM) : Pu := .agg 65 [.leaf (.int .i64 e.kind), .leaf (.int .i64 e.steps), tmc m e.term, l4 e.ref, .leaf (.int .i64 e.num)]
instance (m : Nat) (e : EndM) : TyV Tryz.prog 65 (.pu (Z3 m e)) := inferInstanceAs (TyV Tryz.prog 65 (.pu (.agg _ _)))
theorem bP2 {P : Program} {m n : Nat} (h : n ≤ m) (e : EndM) : VImp P (.pu (Z3 m e)) (.pu (Z3 n e)) := (Low.agg (.cons .refl (.cons .refl (.cons (A0 h _) (.cons .refl (.cons .refl .nil)))))).imp
theorem bD8 {m : Nat} (e : EndM) (h : e.term = j7) : VImp Tryz.prog (.pu (bo9 e)) (.pu (Z3 m e)) := fun C w x hx => by
 cases hx with
 | one h1 h2 =>
  refine .one (.pu ?_) h2
  have h3 := h1.pu_inv
  generalize x.cells.toList = z at h3
  unfold bo9 at h3
  unfold Z3
  rw [h] at h3 ⊢
  cases h3 with
  | agg hc h =>
   refine .agg hc ?_
   cases h with | cons p0 s0 t0 h =>
   cases h with | cons p1 s1 t1 h =>
   cases h with | cons p2 s2 t2 h =>
   exact .cons p0 s0 t0 (.cons p1 s1 t1 (.cons (bM0 p2) s2 t2 h))
abbrev bK3 (m : Nat) (x : EndM × Int) : PV := .tup [.pu (Z3 m x.1), iv .i64 x.2]
theorem bA6 {P : Program} {m n : Nat} (h : n ≤ m) (x : EndM × Int) : VImp P (bK3 m x) (bK3 n x) := VImps.tup (.cons (bP2 h _) (.cons (VImp.refl _) .nil)) (O7 rfl)
theorem bc3 {ts : List KT} : ∀ (left steps : Nat) (t : Tm), (u4 ts left steps t).1.kind ≠ 0 → (u4 ts left steps t).1.kind ≠ 9 → (u4 ts left steps t).1.term = j7 := by
 have hE : ∀ {steps : Nat} {t : Tm} {e : EndM}, T9 ts steps t = some e → e.kind ≠ 0 → e.kind ≠ 9 → e.term = j7 := fun {steps t e} h h0 h9 => by
  unfold T9 at h
  split at h
  ·simp at h; subst h; exact (h0 rfl).elim
  ·split at h
   ·simp at h; subst h; exact (h9 rfl).elim
   ·split at h
    ·simp at h; subst h; rfl
    ·cases h
 intro left
 induction left with
 | zero =>
  intro steps t
  simp only [u4]
  split
  ·rename_i e he; exact hE he
  ·exact fun _ _ => rfl
 | succ left ih =>
  intro steps t
  simp only [u4]
  split
  ·rename_i e he; exact hE he
  ·split
   ·exact fun _ _ => rfl
   ·exact ih _ _
set_option maxHeartbeats 1000000 in
theorem ce1 (a b : Pu) (ts : List KT) (t : Tm) (fuel : Int) (hts : ∀ x ∈ ts, a8 x.2 < 2^40) (hN : a8 t < 2^40) : FCallN Tryz.prog G 35 [.pu (wdP a b ts), .pu (tmc 0 t), iv .i64 fuel] (fun m => bK3 m (F9 ts t fuel)) := by
 refine FCallN.of_tri tbl 58 Tryz.func35 rfl rfl (fun _ => rfl) fun w0 M ρ0 D0 hM => ?_
 refine Y89 ?_;refine b9 SS 6 ?_;refine yB ?_;refine b8 [3, 4, 6] ?_;refine Y22 ?_;refine Dq (G6 a b ts t hts hN) ?_;refine Y52 ?_;refine Cq ?_ ?_
 ·intro h0
  have h0' : ¬ d3 ts t = 0 := by simpa using h0
  have hfin : F9 ts t fuel = (endZ, d3 ts t) := by simp only [F9, if_neg h0']
  refine Y51 ?_;refine yM ?_;refine yS ?_;refine Y2 ?_;exact Tri.ret ⟨.inr rfl, q8 rfl j6 ((by rw [hfin]; exact ToPu.imp (by unfold endZ j7; repeat constructor))) b4 ((by rw [hfin]; exact VImp.refl _))⟩
 ·intro h0
  have h0' : d3 ts t = 0 := by simpa using h0
  obtain ⟨k1, k2, k3, k4⟩ := w8 h0'
  obtain ⟨k5, k6⟩ := r7 k4
  refine Tri.skip ?_;refine Y58 ?_;refine Y92 ?_;refine Cq ?_ ?_
  ·intro h1
   have h1' : fuel < 0 ∨ 2000 < fuel := by simpa using h1
   have hfin : F9 ts t fuel = (endZ, 3) := by simp only [F9, if_pos h0', if_pos h1']
   refine ay4 ?_;exact Tri.ret ⟨.inr rfl, q8 rfl j6 ((by rw [hfin]; exact ToPu.imp (by unfold endZ j7; repeat constructor))) b4 ((by rw [hfin]; exact VImp.refl _))⟩
  ·intro h1
   have h1' : ¬ (fuel < 0 ∨ 2000 < fuel) := by simp at h1; omega
   obtain ⟨fl, hfl⟩ : ∃ fl : Nat, fuel = fl := ⟨fuel.toNat, by omega⟩
   subst hfl
   have hran := ca9 (G := G) a b ts k3 (by omega) (fun x hx => (r7 (k2 x hx)).1) (fun x hx => (r7 (k2 x hx)).2) t k5 (by omega) fl (by omega)
   have hinv := aD3 (ts := ts) (fun x hx => (r7 (k2 x hx)).1) fl 0 t k5 (by omega)
   have hterm := bc3 (ts := ts) fl 0 t
   have hrun : F9 ts t fl = if (u4 ts fl 0 t).2 = 0 then (if (u4 ts fl 0 t).1.kind ≠ 0 ∧ (u4 ts fl 0 t).1.kind ≠ 9 then ((u4 ts fl 0 t).1, 0) else if n6 (u4 ts fl 0 t).1.term 60 8 = 0 then ((u4 ts fl 0 t).1, 0) else (endZ, 11)) else (endZ, (u4 ts fl 0 t).2) := by simp only [F9, if_pos h0', if_neg h1', Int.toNat_natCast]
   generalize u4 ts fl 0 t = res at hran hinv hrun hterm
   obtain ⟨⟨ek, es, et, er, en⟩, err⟩ := res
   simp only at hinv hrun hterm
   refine Tri.skip ?_;refine Y22 ?_;refine yM ?_;refine Dq hran ?_;refine Y28 ?_;refine ay6 ?_;refine yA ?_;refine b8 [9] ?_;refine Y84 ?_;refine Y76 ?_;refine Cq ?_ ?_
   ·intro h2
    have h2' : ¬ err = 0 := by simpa using h2
    rw [if_neg h2'] at hrun
    refine Y51 ?_;refine yM ?_;refine yS ?_;refine Y2 ?_;exact Tri.ret ⟨.inr rfl, q8 rfl j6 ((by rw [hrun]; exact ToPu.imp (by unfold endZ j7; repeat constructor))) b4 ((by rw [hrun]; exact VImp.refl _))⟩
   ·intro h2
    have h2' : err = 0 := by simpa using h2
    rw [if_pos h2'] at hrun
    refine Y55 ?_;refine xI ?_;refine Y44 ?_;refine Cq ?_ ?_
    ·intro h3
     have h3' : ek ≠ 0 ∧ ek ≠ 9 := by simpa using h3
     rw [if_pos h3'] at hrun
     have ht := hterm h3'.1 h3'.2
     refine Y4 ?_;refine Y56 ?_;exact Tri.ret ⟨.inr rfl, q8 rfl j6 ((by rw [hrun]; exact bD8 ⟨ek, es, et, er, en⟩ ht)) b4 ((by rw [hrun]; exact VImp.refl _))⟩
    ·intro h3
     have h3' : ¬ (ek ≠ 0 ∧ ek ≠ 9) := by simpa using h3
     rw [if_neg h3'] at hrun
     refine Y13 ?_;refine Dq (aV2 et (by omega)) ?_;refine yQ ?_;refine Y2 ?_;refine Cq ?_ ?_
     ·intro h4
      have h4' : ¬ n6 et 60 8 = 0 := by simpa using h4
      rw [if_neg h4'] at hrun
      refine ay4 ?_;exact Tri.ret ⟨.inr rfl, q8 rfl j6 ((by rw [hrun]; exact ToPu.imp (by unfold endZ j7; repeat constructor))) b4 ((by rw [hrun]; exact VImp.refl _))⟩
     ·intro h4
      have h4' : n6 et 60 8 = 0 := by simpa using h4
      rw [if_pos h4'] at hrun
      refine Tri.skip ?_;refine Y13 ?_;refine b5 (z9 (fun m n h => (A0 h _).imp) (fun _ => bd7 et (by omega))) ?_;refine Y83 ?_;refine Y4 ?_;refine Y56 ?_;exact Tri.ret ⟨.inr rfl, q8 rfl j6 ((by rw [hrun]; exact VImp.refl _)) b4 ((by rw [hrun]; exact VImp.refl _))⟩
theorem Wore1.grew' {E : TypeId} {k m hi : Nat} {Z : List Value → Prop} {w w' : World} (g : Grew w w') : Wore1 E k Z m hi w w' := fun b c _ _ hb => ⟨c, (g.block b (y8 hb)).trans hb, rfl, fun _ _ => .inl rfl⟩
theorem Wore.grew' {m hi : Nat} {w w' : World} (g : Grew w w') : Wore m hi w w' := ⟨.grew' g, .grew' g, .grew' g⟩
def aY2 (e1 e2 : EndM) (r1 r2 : Int) : Bool := (r1 == r2) && (e1.kind == e2.kind) && (e1.steps == e2.steps) && (e1.ref == e2.ref) && (e1.num == e2.num) && C7 e1.term e2.term
theorem bX2 {m : Nat} {D : Nat → Nat → Prop} {w : World} {e : EndM} {x : List Value} (h : PR Tryz.prog D w (Z3 m e) x) : e.ref.length = 32 := by
 obtain ⟨_, h⟩ := Z7 h
 obtain ⟨_, _, _, h⟩ := n8 h
 obtain ⟨_, _, _, h⟩ := n8 h
 obtain ⟨_, _, _, h⟩ := n8 h
 obtain ⟨⟨_, h⟩, _⟩ := n8 h
 exact R3 h
theorem bQ3 : l7 Tryz.prog 65 = some [(1, 3), (1, 3), (36, 32), (32, 28), (1, 3)] := by kernel_rfl
theorem bo8 {m : Nat} {D : Nat → Nat → Prop} {w : World} {e : EndM} {x : List Value} (h : PR Tryz.prog D w (Z3 m e) x) : ∃ x0 lt x1, x = x0 ++ lt ++ x1 ∧ x0.length = 2 ∧ lt.length = 36 ∧ PR Tryz.prog D w (tmc m e.term) lt := by
 unfold Z3 at h
 cases h with
 | agg hc h =>
  rw [bQ3] at hc
  simp only [Option.some.injEq] at hc
  subst hc
  cases h with | @cons _ _ _ _ _ x0 _ _ s0 _ h =>
  cases h with | @cons _ _ _ _ _ x1 _ _ s1 _ h =>
  cases h with | @cons _ _ _ _ _ x2 y2 p2 s2 _ h =>
  exact ⟨x0 ++ x1, x2, y2, by simp, by simp [s0, s1], s2, p2⟩
end
theorem cg6 : l7 Tryz.prog 87 = some [(1, 3), (1, 3), (36, 32), (32, 28), (1, 3)] := by kernel_rfl
theorem Wore1.mark {E : TypeId} {k m hi : Nat} {Z : List Value → Prop} {w w1 w2 : World} (h : Wore1 E k Z m hi w w1) (q : MarkK w.heap.size w1 w2) : Wore1 E k Z m hi w w2 := fun b c h1 h2 hb => by
 obtain ⟨c', e1, e2, e3⟩ := h b c h1 h2 hb
 exact ⟨c', (q.low b (y8 hb)).trans e1, e2, e3⟩
theorem Wore.mark {m hi : Nat} {w w1 w2 : World} (h : Wore m hi w w1) (q : MarkK w.heap.size w1 w2) : Wore m hi w w2 := ⟨h.pt.mark q, h.tm.mark q, h.cs.mark q⟩
set_option maxHeartbeats 1000000 in
theorem bF2 (m N hi : Nat) (e1 e2 : EndM) (r1 r2 : Int) {C : Cfg} {w : World} {L0 L1 : List Value} (hz1 : a8 e1.term < 2^40) (hz2 : a8 e2.term < 2^40) (F : Frag Tryz.prog gA C w [] []) (p0 : PR Tryz.prog C.D w (Z3 m e1) L0) (p1 : PR Tryz.prog C.D w (V8 e2) L1)
  {x0 lt x1 : List Value} (hx : L0 = x0 ++ lt ++ x1) (h0 : x0.length = 2) (hlt : lt.length = 36) (hsoft : P7 m hi w N lt) (hh : hi ≤ w.heap.size) :
  Calls Tryz.prog 58 #[.agg L0.toArray, .agg L1.toArray, .int .i64 r1, .int .i64 r2] w fun e w' => e = .returned (.bool (aY2 e1 e2 r1 r2)) ∧ Keep m hi w w' ∧ Wore m hi w w' := by
 have hw1 := bX2 p0
 have hw2 := aV4 p1
 have hl0 : L0.length = Tryz.prog.cellsOf 65 := VR.length_ty (C := ⟨C.D, fun _ => none, fun _ => none⟩) (pl := none) tbl (VR.pu p0) TyV.ok bQ3
 have hl1 : L1.length = Tryz.prog.cellsOf 87 := VR.length_ty (C := ⟨C.D, fun _ => none, fun _ => none⟩) (pl := none) tbl (VR.pu p1) TyV.ok cg6
 obtain ⟨k1, s1, t1, f1, n1⟩ := e1
 obtain ⟨k2, s2, t2, f2, n2⟩ := e2
 dsimp only at hw1 hw2 hz1 hz2
 obtain ⟨wa, hwa⟩ : ∃ wa, wa = w.alloc (.cells L0.toArray 65) := ⟨_, rfl⟩
 obtain ⟨wb, hwb⟩ : ∃ wb, wb = wa.alloc (.cells L1.toArray 87) := ⟨_, rfl⟩
 have ga : Grew w wa := by rw [hwa]; exact Grew.alloc w _
 have gb : Grew wa wb := by rw [hwb]; exact Grew.alloc wa _
 have hsa : wa.heap.size = w.heap.size + 1 := by rw [hwa]; exact J6 w _
 have hsb : wb.heap.size = wa.heap.size + 1 := by rw [hwb]; exact J6 wa _
 have hb4 : wb.heap[w.heap.size]? = some (.cells L0.toArray 65 (0, 0)) := by
  rw [gb.block _ (by omega), hwa]; exact alloc_heap_new w _
 have hb5 : wb.heap[wa.heap.size]? = some (.cells L1.toArray 87 (0, 0)) := by rw [hwb]; exact alloc_heap_new wa _
 have g1 := ga.trans gb
 have hcell : ∀ b o, C.D b o → wb.cell? ⟨b, o, none⟩ = w.cell? ⟨b, o, none⟩ := fun b o hD => g1.cell (F.dLt b o hD)
 have p0' := PR.mono (fun b o hD => ⟨hD, hcell b o hD⟩) g1.ty p0
 have p1' := PR.mono (fun b o hD => ⟨hD, hcell b o hD⟩) g1.ty p1
 obtain ⟨C1, hC1⟩ : ∃ C1 : Cfg, C1 = ⟨C.D, fun l => if l = 4 then some (w.heap.size, .var 65) else if l = 5 then some (wa.heap.size, .var 87) else none, fun _ => none⟩ := ⟨_, rfl⟩
 have d1 : C1.D = C.D := by rw [hC1]
 have ρ4 : C1.ρ 4 = some (w.heap.size, .var 65) := by rw [hC1]; rfl
 have ρ5 : C1.ρ 5 = some (wa.heap.size, .var 87) := by rw [hC1]; rfl
 have ow1 : ∀ b, C1.own b = none := fun b => by rw [hC1]
 have key : ∀ l ob, get [(4, Ob.var 65 (.pu (Z3 m ⟨k1, s1, t1, f1, n1⟩))), (5, Ob.var 87 (.pu (V8 ⟨k2, s2, t2, f2, n2⟩)))] l = some ob →
   (l = 4 ∧ ob = .var 65 (.pu (Z3 m ⟨k1, s1, t1, f1, n1⟩))) ∨ (l = 5 ∧ ob = .var 87 (.pu (V8 ⟨k2, s2, t2, f2, n2⟩))) := fun l ob hl => by
  have := y9 hl
  simp only [List.mem_cons, List.not_mem_nil, or_false, Prod.mk.injEq] at this
  exact this
 have F1 : Frag Tryz.prog gA C1 wb [(4, .var 65 (.pu (Z3 m ⟨k1, s1, t1, f1, n1⟩))), (5, .var 87 (.pu (V8 ⟨k2, s2, t2, f2, n2⟩)))] [] := by
  refine ⟨fun l ob hl => ?_, fun l l' b R R' ob ob' hl hl' q1 q2 => ?_, fun l ob b R o hl hρ hD => ?_, fun b o hD => Nat.lt_of_lt_of_le (F.dLt b o (by rw [← d1]; exact hD)) g1.size, fun b q k hb => (by rw [ow1] at hb; cases hb), F.gl.mono ⟨fun b o hD => ⟨by rw [d1]; exact hD, hcell b o hD⟩, fun l hl => (by cases hl), fun b q k hb hq => False.elim hq, g1.ty⟩⟩
  ·rw [List.append_nil] at hl
   rcases key l ob hl with ⟨rfl, rfl⟩ | ⟨rfl, rfl⟩
   ·exact ⟨_, ρ4, _, _, hb4, .pu (by rw [d1]; simpa using p0'), TyV.ok, by simpa using hl0⟩
   ·exact ⟨_, ρ5, _, _, hb5, .pu (by rw [d1]; simpa using p1'), TyV.ok, by simpa using hl1⟩
  ·rw [List.append_nil] at hl hl'
   rcases key l ob hl with ⟨rfl, rfl⟩ | ⟨rfl, rfl⟩ <;> rcases key l' ob' hl' with ⟨rfl, rfl⟩ | ⟨rfl, rfl⟩
   ·rfl
   ·rw [ρ4] at q1; rw [ρ5] at q2; simp at q1 q2; omega
   ·rw [ρ5] at q1; rw [ρ4] at q2; simp at q1 q2; omega
   ·rfl
  ·rw [List.append_nil] at hl
   have hlb := F.dLt b o (by rw [← d1]; exact hD)
   rcases key l ob hl with ⟨rfl, rfl⟩ | ⟨rfl, rfl⟩
   ·rw [ρ4] at hρ; simp at hρ; omega
   ·rw [ρ5] at hρ; simp at hρ; omega
 refine bp7 (args := #[.agg L0.toArray, .agg L1.toArray, .int .i64 r1, .int .i64 r2]) 55 Tryz.func58 rfl rfl fun a hs hd ha => ?_
 refine wpIn_seq (RTri.use (n := 55) (fun e env' w' => e = .normal ∧ subE [(2, .int .i64 r1), (3, .int .i64 r2), (4, .pointer (some ⟨w.heap.size, 0, none⟩)), (5, .pointer (some ⟨(w.alloc (.cells L0.toArray 65)).heap.size, 0, none⟩))] env' ∧ w' = (w.alloc (.cells L0.toArray 65)).alloc (.cells L1.toArray 87)) ?_ (Kn.of (l := [(0, .agg L0.toArray), (1, .agg L1.toArray), (2, .int .i64 r1), (3, .int .i64 r2)]) hs (fun x hx => ?_)) ?_)
 ·refine RTri.region ?_
  refine bK6 rfl (by decide) ?_;refine bK6 rfl (by decide) ?_;refine W0 rfl (by decide) ?_;refine RL.nil ?_;exact ⟨rfl, ⟨rfl, rfl, rfl, rfl, trivial⟩, rfl⟩
 ·simp only [List.mem_cons, List.not_mem_nil, or_false] at hx
  rcases hx with rfl | rfl | rfl | rfl
  ·exact ha 0 _ rfl
  ·exact ha 1 _ rfl
  ·exact ha 2 _ rfl
  ·exact ha 3 _ rfl
 rintro e a1 w1 env1 hk1 ⟨he, hsub, hw1'⟩
 rw [← hwa, ← hwb] at hw1'
 rw [← hwa] at hsub
 subst he hw1'
 obtain ⟨v2, v3, v4, v5, _⟩ := hsub
 have hfree : ∀ l ob, get [(4, Ob.var 65 (.pu (Z3 m ⟨k1, s1, t1, f1, n1⟩))), (5, Ob.var 87 (.pu (V8 ⟨k2, s2, t2, f2, n2⟩)))] l = some ob → B2 ob = true := fun l ob hl => by
  rcases key l ob hl with ⟨rfl, rfl⟩ | ⟨rfl, rfl⟩ <;> rfl
 obtain ⟨C0, hsat⟩ := bb4 F1 hfree 55 [4, 5] hk1.size (hk1.defers.trans hd) (env := [(2, iv .i64 r1), (3, iv .i64 r2), (4, .ptr 4 [] 65), (5, .ptr 5 [] 87)]) (fun i u hu => by
  have := y9 hu
  simp only [List.mem_cons, List.not_mem_nil, or_false, Prod.mk.injEq] at this
  rcases this with ⟨rfl, rfl⟩ | ⟨rfl, rfl⟩ | ⟨rfl, rfl⟩ | ⟨rfl, rfl⟩
  ·exact ⟨_, hk1.env _ _ v2, .pu (.leaf rfl), rfl⟩
  ·exact ⟨_, hk1.env _ _ v3, .pu (.leaf rfl), rfl⟩
  ·exact ⟨_, hk1.env _ _ v4, .ptr ρ4 rfl, rfl⟩
  ·exact ⟨_, hk1.env _ _ v5, .ptr ρ5 rfl, rfl⟩)
 refine TriR.run hsat ?_;refine TriR.seq ?_;refine Y4 ?_;refine Dq (cf5 ⟨k2, s2, t2, f2, n2⟩) ?_;refine ay6 ?_;refine b8 [9] ?_
 refine ⟨rfl, ?_⟩
 refine TriR.seq ?_;refine Y62 ?_;refine Y39 ?_;refine Y53 ?_;refine Y39 ?_;refine Y53 ?_;refine Y39 ?_;refine f7 zG (D4 SS (h := U6 (hw1.trans hw2.symm))) ?_;refine yN ?_;refine Y39 ?_;refine Y53 ?_;refine Y39 ?_;refine f7 zG (c8 (fun _ => M7 _ t1 t2 (Nat.le_refl _) hz1 hz2)) ?_;refine yN ?_;refine Y8 ?_
 refine ⟨rfl, ?_⟩
 intro C2 a2 w2 hs2
 have gw2 : Grew w1 w2 := hs2.grewF (fun b => Z8)
 have h4 : w2.heap[w.heap.size]? = some (.cells L0.toArray 65 (0, 0)) := (gw2.block _ (by omega)).trans hb4
 have s4 := hs2.ptr_val (i := 4) rfl ((hs2.kin.rho 4 (by simp)).trans ρ4) rfl
 have s10 := hs2.leaf_val (i := 10) rfl
 have gall := g1.trans gw2
 obtain ⟨bb, hbb⟩ : ∃ bb, bb = aY2 ⟨k1, s1, t1, f1, n1⟩ ⟨k2, s2, t2, f2, n2⟩ r1 r2 := ⟨_, rfl⟩
 have s10' : a2.tmps[10]? = some (.bool bb) := by rw [hbb]; exact s10
 refine wpIn_seq (RTri.use (n := 55) (fun e env' w' => e = .normal ∧ subE [(10, .bool bb)] env' ∧ Keep m hi w2 w' ∧ Wore m hi w2 w') ?_ (Kn.of (l := [(4, .pointer (some ⟨w.heap.size, 0, none⟩)), (10, .bool bb)]) hs2.size (fun x hx => ?_)) ?_)
 ·refine RTri.region ?_
  refine I3 tbl (off := 2) rfl (by kernel_rfl) (by decide) ?_;refine al3 tbl (l := lt) (fun j v hj => ?_) (hlt.trans (by kernel_rfl)) rfl (by kernel_rfl) (by decide) ?_
  ·rw [m9 h4, hx]
   simp only [List.getElem?_toArray]
   rw [List.append_assoc, List.getElem?_append_right (by omega), List.getElem?_append_left (by have := (List.getElem?_eq_some_iff.1 hj).1; omega), h0, show 0 + 2 + j - 2 = j by omega];exact hj
  refine RL.call rfl rfl rfl (by decide) #[.agg lt.toArray] (fun _ ha => av2 (by kernel_rfl) rfl rfl rfl ha) ?_
  refine (ar7 N m hi w2 lt (N1 (Wore.grew' gall) N lt hsoft) (Nat.le_trans hh gall.size)).mono fun e w3 ⟨⟨v, he⟩, K3, W3⟩ => ⟨v, he, ?_⟩
  refine RL.nil ?_;exact ⟨rfl, ⟨rfl, trivial⟩, K3, W3⟩
 ·simp only [List.mem_cons, List.not_mem_nil, or_false] at hx
  rcases hx with rfl | rfl
  ·exact s4
  ·exact s10'
 rintro e a3 w3 env3 hk3 ⟨he, hsub3, hK, hW⟩
 subst he;refine wpIn_seq (RTri.use (n := 55) (env := [(10, .bool bb)]) (fun e env' w' => e = .normal ∧ subE [(8, .bool bb)] env' ∧ w' = w3) ?_ (hk3.less hsub3.get) ?_)
 ·refine RTri.region ?_
  refine A1 rfl (by decide) ?_;refine W0 rfl (by decide) ?_;refine RL.nil ?_;exact ⟨rfl, ⟨rfl, trivial⟩, rfl⟩
 rintro e a4 w4 env4 hk4 ⟨he, hsub4, hw4⟩
 subst he hw4
 have hres : Tryz.f58.results = #[.tmp 8] := rfl
 have s8 := hk4.env 8 _ hsub4.1
 refine wpIn_ret ⟨.inr rfl, ⟨by rw [hk4.defers]; exact hs2.defers.1, fun d hd' => ?_⟩, .bool bb, fun w5 => by simp [results, hres, s8], fun w5 hM => ?_⟩
 ·rw [hk4.defers] at hd'
  obtain ⟨D, q1, q2, q3, _⟩ := hs2.defers.2 d hd'
  rcases q2 with q2 | q2
  ·exact ⟨D, q1, Nat.le_trans g1.size q2, hK.other D _ q3 (fun _ _ _ e => by cases e)⟩
  ·exact (Z8 q2).elim
 ·exact ⟨by rw [hbb], ((Keep.of_grew gall).trans hK).mark hM, ((Wore.grew' gall).trans hW).mark hM⟩
theorem bE8 (t : Tm) : d3 [] t = n6 t 0 0 := by simp [d3, m6, orE, bh9]
theorem bI5 {ts : List KT} (hb : ∀ x ∈ ts, Rt x.2) {t : Tm} (hc : d3 ts t = 0) (h : Rt t) (fuel : Int) : F9 ts t fuel = aH6 ts t fuel := by
 obtain ⟨k1, k2, k3, k4⟩ := w8 hc
 unfold F9 aH6
 rw [if_pos hc]
 split
 ·rfl
 ·have hA : ∀ (left steps : Nat) (t : Tm), Rt t → a8 t ≤ 3000 → (u4 ts left steps t).2 = 0 → ((u4 ts left steps t).1.kind = 0 ∨ (u4 ts left steps t).1.kind = 9) → Rt (u4 ts left steps t).1.term := by
   have hE : ∀ {steps : Nat} {t : Tm} {e : EndM}, Rt t → T9 ts steps t = some e → (e.kind = 0 ∨ e.kind = 9) → Rt e.term := fun {steps t e} ht h h0 => by
    unfold T9 at h
    split at h
    ·simp at h; subst h; exact ht
    ·split at h
     ·rename_i h9
      simp at h; subst h
      have hk := bN3 h9
      have hw := aL3 ht.gd
      obtain ⟨x, hx⟩ := aN7 (ab1 hw) (.inr (.inr hk))
      have hgx := L9 hw hx
      rw [V0 (by omega), Int.add_zero] at hgx
      simp only [hx, Option.getD_some]
      exact ⟨hgx, X5 (am0 ht.lc) hx⟩
     ·split at h
      ·simp at h; subst h; simp at h0
      ·cases h
   intro left
   induction left with
   | zero =>
    intro steps t ht _
    simp only [u4]
    split
    ·rename_i e he; exact fun _ h => hE ht he h
    ·exact fun _ h => by simp at h
   | succ left ih =>
    intro steps t ht hz
    simp only [u4]
    split
    ·rename_i e he; exact fun _ h => hE ht he h
    ·rename_i he
     split
     ·exact fun h => by simp at h
     ·rename_i hg
      have hls := Q5 (mn := 3000) (md := 200) (t := n5 ts t) (d := 1) (c := 0) (by omega) (by simpa using hg)
      have hv : ¬ D3 t = true := fun hv => by simp [T9, hv] at he
      have h9 : ¬ y6 ts t (c9 t) = 9 := fun h9 => by simp [T9, hv, h9] at he
      have h8 : ¬ y6 ts t (c9 t) = 8 := fun h8 => by simp [T9, hv, h8] at he
      have h19 := bN4 (ts := ts) (t := t)
      exact ih _ _ (bs5 hb ht (by omega) (by omega)) (by omega)
  have hT := bc3 (ts := ts) fuel.toNat 0 t
  have hR := hA fuel.toNat 0 t h (by have := (r7 k4).2; omega)
  generalize u4 ts fuel.toNat 0 t = r at hT hR
  obtain ⟨e, err⟩ := r
  dsimp only at hT hR ⊢
  unfold bb9
  dsimp only
  by_cases h0 : err = 0
  ·rw [if_pos h0, if_pos h0]
   have hn : (m2 300 60 1 0 j7).1 = false := by decide
   by_cases hk : e.kind ≠ 0 ∧ e.kind ≠ 9
   ·rw [if_pos hk, hT hk.1 hk.2, hn]; rfl
   ·rw [if_neg hk]
    rw [(hR h0 (by omega)).check 60 8]
    cases (m2 300 60 1 0 e.term).1 <;> simp
  ·rw [if_neg h0, if_neg h0]
theorem aT8 (t : Tm) : true = (PV.pu (tmc 0 t)).isAgg := by cases t; rfl
theorem bz6 {C : Cfg} {w : World} {m : Nat} {t : Tm} {e : Int} {y : Value} (h : VW Tryz.prog C w (aG8 m (t, e)) y) : ∃ L : List Value, y = .tuple #[.agg L.toArray, .int .i64 e] ∧ PR Tryz.prog C.D w (tmc m t) L := by
 cases h with
 | one h hs =>
  generalize y.cells.toList = z at h
  cases h
 | @tup _ xs h =>
  obtain ⟨l⟩ := xs
  simp only at h
  cases h with | @cons _ _ y0 _ hv hsa h =>
  cases h with | @cons _ _ y1 _ hv1 hsa1 h =>
  cases h
  have e1 : y1 = .int .i64 e := (VW.one hv1 hsa1).leaf_inv.1
  have h0 : j1 y0 = true := by rw [hsa]; cases t; rfl
  subst e1
  cases y0 with
  | agg arr => exact ⟨arr.toList, rfl, by simpa [Value.cells] using hv.pu_inv⟩
  | _ => cases h0
theorem aX9 (m : Nat) : ∀ r : List Int, T6 m (r.map fun n => Pu.leaf (.int .u8 n)) = true
 | [] => rfl
 | _ :: r => by simp only [List.map_cons, T6, aO0, aX9 m r, Bool.and_self]
mutual
theorem bQ4 (m : Nat) : ∀ p : Pat, aO0 m (v7 m p) = true
 | .mk k n r ks => by simp [v7, aO0, T6, l4, aX9 m r, bw7 m ks]
theorem bw7 (m : Nat) : ∀ ps : List Pat, T6 m (u6 m ps) = true
 | [] => rfl
 | p :: ps => by simp [u6, T6, bQ4 m p, bw7 m ps]
end
mutual
theorem bp6 (m : Nat) : ∀ t : Tm, aO0 m (tmc m t) = true
 | .mk k n r ks cs => by simp [tmc, aO0, T6, l4, aX9 m r, bw6 m ks, bw8 m cs]
theorem bw6 (m : Nat) : ∀ ts : List Tm, T6 m (l8 m ts) = true
 | [] => rfl
 | t :: ts => by simp [l8, T6, bp6 m t, bw6 m ts]
theorem bw8 (m : Nat) : ∀ cs : List Cs, T6 m (z8 m cs) = true
 | [] => rfl
 | c :: cs => by simp [z8, T6, cg9 m c, bw8 m cs]
theorem cg9 (m : Nat) : ∀ c : Cs, aO0 m (J3 m c) = true
 | .mk p t => by simp [J3, aO0, T6, bQ4 m p, bp6 m t]
end
theorem bj1 (e : EndM) (r : Int) : aY2 e e r r = true := by simp [aY2, D7]
set_option maxHeartbeats 8000000 in
theorem ao1 (a b : Pu) (ts : List KT) (t u : Tm) (fuel : Int) (hl : ts.length < 2^40) (hts : ∀ x ∈ ts, a8 x.2 < 2^40) (hN : a8 t < 2^40) (hM : a8 u < 2^40) (hrg : rgT t) (hrgu : rgT u) (hrgs : ∀ x ∈ ts, rgT x.2) :
  FCall Tryz.prog gA 8 [.pu (wdP a b ts), .pu (tmc 0 t), .pu (tmc 0 u), iv .i64 fuel] (bv true) := by
 refine Fq 152 Tryz.func8 ?_;intro w0 M ρ0 D0
 refine yR ?_;refine p7 SS 4 ?_;refine p7 SS 5 ?_;refine p7 SS 6 ?_;refine yB ?_;refine b8 [4, 5, 6] ?_;refine Y22 ?_;refine Dq (aK9 a b ts t hl hts hN) ?_;refine Y37 ?_;refine f7 zG (c8 (fun _ => aE4 u hM)) ?_;refine Y92 ?_;refine Cq ?_ ?_
 ·intro h0
  refine yR ?_;refine Dq awake_c ?_;refine Y2 ?_;refine Rq ?_;exact VImp.refl _
 ·intro h0
  obtain ⟨h00, h01⟩ : aC7 ts t = false ∧ X8 u = false := by simpa using h0
  obtain ⟨hl2, hN2, hts2⟩ := av3 h00
  have hM2 := af6 h01
  obtain ⟨en, er, hR⟩ : ∃ en er, F9 ts t fuel = (en, er) := ⟨_, _, rfl⟩
  obtain ⟨sm, sr, hS⟩ : ∃ sm sr, as0 ts t u fuel = (sm, sr) := ⟨_, _, rfl⟩
  obtain ⟨sn, sg, hG⟩ : ∃ sn sg, X3 t = (sn, sg) := ⟨_, _, rfl⟩
  have hcn := V9 (G := gA) kdN kaN [] t (by simp) (by simp) hN
  rw [bE8] at hcn
  refine Tri.skip ?_;refine Y14 ?_;refine yP ?_;refine Dq (ao9 ts (by omega) (fun x hx => by have := hts2 x hx; omega)) ?_;refine yL ?_;refine Dq (K4 _ t (Nat.le_refl _) (by omega)) ?_;refine yL ?_;refine Dq (K4 _ u (Nat.le_refl _) (by omega)) ?_;refine b9 SS 9 ?_;refine b9 SS 10 ?_;refine b9 SS 11 ?_;refine yS ?_;refine yS ?_;refine yS ?_;refine A5 [9, 10, 11] ?_;refine Y22 ?_;refine Dq (V9 a b ts t hl hts hN) ?_;refine Y8 ?_;refine Y1 ?_;refine yT ?_;refine yL ?_;refine Dq hcn ?_;refine Y61 ?_;refine yR ?_;refine b9 SS 15 ?_;refine b9 SS 16 ?_;refine b8 [15, 16] ?_;refine yR ?_;refine b9 SS 17 ?_;refine b8 [17] ?_;refine yR ?_
  refine yB ?_;refine B5 ?_;refine Y30 ?_;refine Tri.cutW (σ := Unit) (fun q => ⟨[(4, .ptr 4 [] 26), (5, .ptr 5 [] 32), (6, .ptr 6 [] 32), (9, .ptr 9 [] 26), (10, .ptr 10 [] 32), (11, .ptr 11 [] 32), (15, .ptr 15 [] 87), (16, .ptr 16 [] 87), (17, .ptr 17 [] 32), (3, iv .i64 fuel), (12, iv .i64 (d3 ts t)), (13, iv .i64 (d3 ts t)), (14, iv .i64 sg), (18, bv false)], [(4, .var 26 (.pu (wdP a b ts))), (5, .var 32 (.pu (tmc 0 t))), (6, .var 32 (.pu (tmc 0 u))), (9, .var 26 (.pu (wdP kdN kaN ts))), (10, .var 32 (.pu (tmc 0 t))), (11, .var 32 (.pu (tmc 0 u))), (15, .var 87 (.pu (V8 endZ))), (16, .var 87 (.pu (V8 endZ))), (17, .var 32 (.pu (tmc 0 sn)))]⟩) ?_ (fun q => ?_)
  ·skip
   refine tQ ?_;refine Cq ?_ ?_
   ·intro h1
    have h1' : n6 t 0 0 = 0 := by simpa using h1
    rw [X3, if_pos h1'] at hG
    refine Y21 ?_;refine Y4 ?_;refine Dq (ai0 _ t (Nat.le_refl _) hN) ?_;refine Y0 ?_;refine Cq ?_ ?_
    ·intro h2
     rw [if_pos h2] at hG
     simp only [Prod.mk.injEq] at hG
     obtain ⟨rfl, rfl⟩ := hG
     refine Y4 ?_;refine Dq (aV0 _ t (Nat.le_refl _) (by omega)) ?_;refine yS ?_;refine yB ?_;refine B5 ?_
     refine ⟨(), ?_, ?_⟩
     ·exact zW
     ·exact zW
    ·intro h2
     rw [if_neg (by rw [h2]; decide)] at hG
     simp only [Prod.mk.injEq] at hG
     obtain ⟨rfl, rfl⟩ := hG
     unfold j7
     refine Tri.skip ?_
     refine ⟨(), ?_, ?_⟩
     ·exact zW
     ·exact zW
   ·intro h1
    have h1' : ¬ n6 t 0 0 = 0 := by simpa using h1
    rw [X3, if_neg h1'] at hG
    simp only [Prod.mk.injEq] at hG
    obtain ⟨rfl, rfl⟩ := hG
    unfold j7
    refine Tri.skip ?_
    refine ⟨(), ?_, ?_⟩
    ·exact zW
    ·exact zW
  ·skip
   refine Y30 ?_;refine Tri.cutW (σ := Unit) (fun q => ⟨[(4, .ptr 4 [] 26), (5, .ptr 5 [] 32), (6, .ptr 6 [] 32), (9, .ptr 9 [] 26), (10, .ptr 10 [] 32), (11, .ptr 11 [] 32), (15, .ptr 15 [] 87), (17, .ptr 17 [] 32), (3, iv .i64 fuel), (12, iv .i64 er), (13, iv .i64 sr), (14, iv .i64 sg), (18, bv sm)], [(4, .var 26 (.pu (wdP a b ts))), (5, .var 32 (.pu (tmc 0 t))), (6, .var 32 (.pu (tmc 0 u))), (9, .var 26 (.pu (wdP kdN kaN ts))), (10, .var 32 (.pu (tmc 0 t))), (11, .var 32 (.pu (tmc 0 u))), (15, .var 87 (.pu (V8 en))), (17, .var 32 (.pu (tmc 0 sn)))]⟩) ?_ (fun q => ?_)
   ·skip
    refine tQ ?_;refine Cq ?_ ?_
    ·intro h3
     have h3' : d3 ts t = 0 := by simpa using h3
     obtain ⟨k1, k2, k3, k4⟩ := w8 h3'
     have hb : ∀ x ∈ ts, Rt x.2 := fun x hx => Z4 (k2 x hx) (hrgs x hx)
     have hr := Z4 k4 hrg
     have hbz : ∀ x ∈ ts, gdT 0 x.2 ∧ a8 x.2 ≤ 300 := fun x hx => ⟨(hb x hx).gd, (r7 (k2 x hx)).2⟩
     have hz := (r7 k4).2
     have hrr := bJ1 (G := gA) a b ts hl hbz t hr.gd (by omega) fuel
     rw [← bI5 hb h3' hr, hR] at hrr
     rw [as0, if_pos h3', hR] at hS
     dsimp only at hS
     refine Y22 ?_;refine yM ?_;refine Dq hrr ?_;refine Y28 ?_;refine yS ?_;refine Y8 ?_;refine Y22 ?_;refine Dq (V9 a b ts u hl hts hM) ?_;refine Y52 ?_;refine Cq ?_ ?_
     ·intro h4
      have h4' : d3 ts u = 0 := by simpa using h4
      have k5 := (w8 h4').2.2.2
      have hru := Z4 k5 hrgu
      have hzu := (r7 k5).2
      rw [if_pos h4'] at hS
      refine Y1 ?_;refine Y52 ?_;refine Cq ?_ ?_
      ·intro h5
       have h5' : er = 0 := by simpa using h5
       rw [if_pos h5'] at hS
       obtain ⟨eu, ur, hU⟩ : ∃ eu ur, F9 ts u fuel = (eu, ur) := ⟨_, _, rfl⟩
       have hrv := bJ1 (G := gA) a b ts hl hbz u hru.gd (by omega) fuel
       rw [← bI5 hb h4' hru, hU] at hrv
       rw [hU] at hS
       dsimp only at hS
       have hq1 := (aH5 (ts := ts) (t := t) fuel).2
       have hq2 := (aH5 (ts := ts) (t := u) fuel).2
       rw [hR] at hq1
       rw [hU] at hq2
       dsimp only at hq1 hq2
       refine Y22 ?_;refine yM ?_;refine Dq hrv ?_;refine Y28 ?_;refine yS ?_;refine Y8 ?_;refine Y11 ?_;refine ay2 ?_;refine f7 zG (c8 (fun _ => bK4 en eu (by omega) (by omega))) ?_;refine yN ?_;refine Y8 ?_
       have hfs : sr = ur ∧ sm = (ur == 0 && ay1 en eu) := by
        by_cases h0 : ur = 0
        ·rw [if_pos h0] at hS
         simp only [Prod.mk.injEq] at hS
         exact ⟨by rw [← hS.2, h0], by rw [← hS.1]; simp [h0]⟩
        ·rw [if_neg h0] at hS
         simp only [Prod.mk.injEq] at hS
         exact ⟨hS.2.symm, by rw [← hS.1]; simp [h0]⟩
       obtain ⟨rfl, rfl⟩ := hfs
       refine ⟨(), ?_, ?_⟩
       ·exact zW
       ·exact zW
      ·intro h5
       have h5' : ¬ er = 0 := by simpa using h5
       rw [if_neg h5'] at hS
       simp only [Prod.mk.injEq] at hS
       obtain ⟨rfl, rfl⟩ := hS
       refine Tri.skip ?_
       refine ⟨(), ?_, ?_⟩
       ·exact zW
       ·exact zW
     ·intro h4
      have h4' : ¬ d3 ts u = 0 := by simpa using h4
      rw [if_neg h4'] at hS
      simp only [Prod.mk.injEq] at hS
      obtain ⟨rfl, rfl⟩ := hS
      refine Tri.skip ?_
      refine ⟨(), ?_, ?_⟩
      ·exact zW
      ·exact zW
    ·intro h3
     have h3' : ¬ d3 ts t = 0 := by simpa using h3
     rw [F9, if_neg h3'] at hR
     rw [as0, if_neg h3'] at hS
     simp only [Prod.mk.injEq] at hR hS
     obtain ⟨rfl, rfl⟩ := hR
     obtain ⟨rfl, rfl⟩ := hS
     refine Tri.skip ?_
     refine ⟨(), ?_, ?_⟩
     ·exact zW
     ·exact zW
   ·skip
    have hzk := aH5 (ts := ts) (t := t) fuel
    rw [hR] at hzk
    have hsz : a8 sn ≤ 800 := by
     have h1 := U7 t
     have hn1 : a8 j7 = 1 := by simp [j7, a8, d7, f6]
     unfold X3 at hG
     repeat' split at hG
     all_goals (simp only [Prod.mk.injEq] at hG; obtain ⟨rfl, _⟩ := hG; omega)
    have hrun := ce1 (G := gA) kdN kaN ts t fuel hts hN
    rw [hR] at hrun
    have hsame := cd6 (G := gA) kdN kaN ts t u fuel hts hN hM
    rw [hS] at hsame
    have hseen := bl3 (G := gA) t hN
    rw [hG] at hseen
    refine Tri.toR [4, 5, 6, 9, 10, 11, 15, 17] rfl rfl (by simp) fun C1 a1 w1 M1 hs1 hpos hM1 => ?_
    refine TriR.seq ?_;refine Y22 ?_;refine yM ?_;refine b5 (z9 (fun m n h => bA6 h _) (fun _ => hrun)) ?_;refine Y28 ?_;refine b9 SS 19 ?_;refine yS ?_;refine yA ?_;refine b8 [19] ?_
    refine ⟨rfl, ?_⟩
    refine TriR.seq ?_;refine Y22 ?_;refine yL ?_;refine yM ?_;refine Dq hsame ?_;refine Y80 ?_
    refine ⟨rfl, ?_⟩
    intro C2 a2 w2 hs2
    have hm12 : w1.heap.size ≤ w2.heap.size := hs2.framed.size
    obtain ⟨b19, c19, E19, ρ19, _, h19, p19, z19⟩ := hs2.obj_cells (l := 19) (T := 65) (p := Z3 w1.heap.size en) rfl
    obtain ⟨b10, c10, E10, ρ10, _, h10, p10, z10⟩ := hs2.obj_cells (l := 10) (T := 32) (p := tmc 0 t) rfl
    obtain ⟨b15, c15, E15, ρ15, _, h15, p15, z15⟩ := hs2.obj_cells (l := 15) (T := 87) (p := V8 en) rfl
    obtain ⟨b17, c17, E17, ρ17, _, h17, p17, z17⟩ := hs1.obj_cells (l := 17) (T := 32) (p := tmc 0 sn) rfl
    have h17' := hs1.met hM1 hs2 h17
    have s10 := hs2.ptr_val (i := 10) rfl ρ10 rfl
    have s15 := hs2.ptr_val (i := 15) rfl ρ15 rfl
    have s17 := hs2.ptr_val (i := 17) rfl ((hs2.kin.rho 17 (by simp)).trans ρ17) rfl
    have s19 := hs2.ptr_val (i := 19) rfl ρ19 rfl
    have s12 := hs2.leaf_val (i := 12) (v := .int .i64 er) rfl
    have s13 := hs2.leaf_val (i := 13) (v := .int .i64 sr) rfl
    have s14 := hs2.leaf_val (i := 14) (v := .int .i64 sg) rfl
    have s18 := hs2.leaf_val (i := 18) (v := .bool sm) rfl
    have s20 := hs2.leaf_val (i := 20) (v := .int .i64 er) rfl
    have s21 := hs2.leaf_val (i := 21) (v := .bool sm) rfl
    have s22 := hs2.leaf_val (i := 22) (v := .int .i64 sr) rfl
    obtain ⟨x4, s4, _⟩ := hs2.env 4 _ rfl
    obtain ⟨x5, s5, _⟩ := hs2.env 5 _ rfl
    obtain ⟨x6, s6, _⟩ := hs2.env 6 _ rfl
    obtain ⟨x9, s9, _⟩ := hs2.env 9 _ rfl
    obtain ⟨x11, s11, _⟩ := hs2.env 11 _ rfl
    obtain ⟨x0, lt, x1, hx, h0l, hltl, plt⟩ := bo8 p19
    have hsoft : P7 w1.heap.size w2.heap.size w2 3000 lt := ah8 hpos (Nat.le_refl _) 3000 en.term lt hzk.2 (by omega) plt
    have hlt2 : ∀ {b : Nat} {o : Obj}, w2.heap[b]? = some o → b < w2.heap.size := fun h => y8 h
    refine wpIn_seq (RTri.use (n := 152) (fun e env' w' => e = .normal ∧ ∃ (C3 : Cfg) (w3 : World) (L23 : List Value) (cz : Array Value), After Tryz.prog C2 w2 [] [] C3 w3 [] (aG8 w2.heap.size (sn, sg)) (.tuple #[.agg L23.toArray, .int .i64 sg]) ∧ PR Tryz.prog C3.D w3 (tmc w2.heap.size sn) L23 ∧ cz.size = Tryz.prog.cellsOf 32 ∧ w' = (w3.alloc (.cells cz 32)).setRow w3.heap.size L23.toArray ∧
     subE [(23, .pointer (some ⟨w3.heap.size, 0, none⟩)), (24, .int .i64 sg), (4, x4), (5, x5), (6, x6), (9, x9), (10, .pointer (some ⟨b10, 0, none⟩)), (11, x11), (12, .int .i64 er), (13, .int .i64 sr), (14, .int .i64 sg), (15, .pointer (some ⟨b15, 0, none⟩)), (17, .pointer (some ⟨b17, 0, none⟩)), (18, .bool sm), (19, .pointer (some ⟨b19, 0, none⟩)), (20, .int .i64 er), (21, .bool sm), (22, .int .i64 sr)] env') ?_
     (Kn.of (l := [(4, x4), (5, x5), (6, x6), (9, x9), (10, .pointer (some ⟨b10, 0, none⟩)), (11, x11), (12, .int .i64 er), (13, .int .i64 sr), (14, .int .i64 sg), (15, .pointer (some ⟨b15, 0, none⟩)), (17, .pointer (some ⟨b17, 0, none⟩)), (18, .bool sm), (19, .pointer (some ⟨b19, 0, none⟩)), (20, .int .i64 er), (21, .bool sm), (22, .int .i64 sr)]) hs2.size (fun x hx => ?_)) ?_)
    ·refine RTri.region ?_
     refine ak6 tbl (l := c10.toList) (fun j v hj => by rw [m9 h10, ← Array.getElem?_toList, Nat.zero_add]; exact hj) (by rw [Array.length_toList]; exact z10) (by kernel_rfl) ?_;refine RL.callW rfl rfl rfl (by decide) #[.agg c10.toList.toArray] (fun _ ha => aC6 (by kernel_rfl) rfl rfl ha) ?_
     refine (hseen C2 w2 #[.agg c10.toList.toArray] hs2.frag0 (.cons (.pu (by simpa [Value.cells] using p10)) (aT8 t) .nil)).mono fun e w3 ⟨y, C3, he, AA⟩ => ⟨y, he, ?_⟩
     obtain ⟨L23, rfl, pL⟩ := bz6 AA.val
     refine P9 ?_;refine aO7 (i := 0) rfl ?_;refine aO7 (i := 1) rfl ?_
     refine bS4 SS (Zr.ok (S := SS) (T := 32)) fun cz hcz => ?_
     refine bF8 tbl (E := 32) (c := cz) (l := L23) (alloc_heap_new w3 _) hcz (VR.length_ty (C := ⟨C3.D, fun _ => none, fun _ => none⟩) (pl := none) tbl (VR.pu pL) TyV.ok aX8) (by rw [List.all_eq_true]; exact fun u hu => PR.one pL u hu) (of_decide_eq_true (by kernel_rfl)) ?_;refine bG0 ?_;refine RL.nil ?_;exact ⟨rfl, C3, w3, L23, cz, AA, pL, hcz, rfl, ⟨rfl, rfl, rfl, rfl, rfl, rfl, rfl, rfl, rfl, rfl, rfl, rfl, rfl, rfl, rfl, rfl, rfl, rfl, trivial⟩⟩
    ·simp only [List.mem_cons, List.not_mem_nil, or_false] at hx
     rcases hx with rfl | rfl | rfl | rfl | rfl | rfl | rfl | rfl | rfl | rfl | rfl | rfl | rfl | rfl | rfl | rfl <;> assumption
    rintro e a3 w4 env3 hk3 ⟨he, C3, w3, L23, cz, AA, pL, hcz, hw4, hsub3⟩
    subst he
    have g23 := AA.grew
    have hw4b : ∀ b : Nat, b < w3.heap.size → w4.heap[b]? = w3.heap[b]? := fun b hb => by
     rw [hw4, J8 _ _ _ (by omega)];exact (Grew.alloc w3 _).block b hb
    have hw4n : w4.heap[w3.heap.size]? = some (.cells L23.toArray 32 (0, 0)) := by rw [hw4]; exact setRow_heap _ _ _ _ _ _ (alloc_heap_new w3 _)
    have hw4s : w4.heap.size = w3.heap.size + 1 := by rw [hw4, aa4]; exact J6 w3 _
    have hsz23 := g23.size
    have hsame24 : ∀ b : Nat, b < w2.heap.size → w4.heap[b]? = w2.heap[b]? := fun b hb => (hw4b b (by omega)).trans (g23.block b hb)
    have hcell24 : ∀ b o, b < w2.heap.size → w4.cell? ⟨b, o, none⟩ = w2.cell? ⟨b, o, none⟩ := fun b o hb => by simp only [World.cell?, hsame24 b hb]
    have ty34 : TyKeep w3 w4 := by rw [hw4]; exact ((Grew.alloc w3 _).ty).trans (ak8 _ _ _)
    have ty24 : TyKeep w2 w4 := g23.ty.trans ty34
    have K24 : Keep w1.heap.size (w3.heap.size + 1) w2 w4 := by
     rw [hw4];exact ((Keep.of_grew g23).trans (Keep.of_grew (Grew.alloc w3 _))).trans (Keep.setRow (alloc_heap_new w3 _) (by omega) (by omega))
    obtain ⟨C4, hC4⟩ : ∃ C4 : Cfg, C4 = ⟨C2.D, fun _ => none, fun _ => none⟩ := ⟨_, rfl⟩
    have d4 : C4.D = C2.D := by rw [hC4]
    have F4 : Frag Tryz.prog gA C4 w4 [] [] :=
     ⟨fun l ob hl => (by cases hl), fun l l' b R R' ob ob' hl => (by cases hl), fun l ob b R o hl => (by cases hl), fun b o hD => (by rw [d4] at hD; have := hs2.dLt b o hD; omega), fun b q k hb => (by rw [hC4] at hb; cases hb), hs2.gl.mono ⟨fun b o hD => ⟨by rw [d4]; exact hD, hcell24 b o (hs2.dLt b o hD)⟩, fun l hl => (by cases hl), fun b q k hb hq => False.elim hq, ty24⟩⟩
    have m24 : ∀ {p : Pu} {x : List Value}, PR Tryz.prog C2.D w2 p x → PR Tryz.prog C4.D w4 p x := fun h => by rw [d4]; exact PR.mono (fun b o hD => ⟨hD, hcell24 b o (hs2.dLt b o hD)⟩) ty24 h
    have Al := bF2 w1.heap.size 3000 w2.heap.size en en er er (by have := hzk.2; dsimp only at this; omega) (by have := hzk.2; dsimp only at this; omega) F4 (m24 p19) (m24 p15) hx h0l hltl (N1 (Wore.same fun b _ hb => hsame24 b hb) 3000 lt hsoft) (by omega)
    have L19 := hsame24 b19 (y8 h19)
    have L15 := hsame24 b15 (y8 h15)
    have hb17 : b17 < w1.heap.size := y8 h17
    have e3 := hk3.less hsub3.get
    clear hsub3 hk3
    refine wpIn_seq (RTri.use (n := 152) (env := [(23, .pointer (some ⟨w3.heap.size, 0, none⟩)), (24, .int .i64 sg), (4, x4), (5, x5), (6, x6), (9, x9), (10, .pointer (some ⟨b10, 0, none⟩)), (11, x11), (12, .int .i64 er), (13, .int .i64 sr), (14, .int .i64 sg), (15, .pointer (some ⟨b15, 0, none⟩)), (17, .pointer (some ⟨b17, 0, none⟩)), (18, .bool sm), (19, .pointer (some ⟨b19, 0, none⟩)), (20, .int .i64 er), (21, .bool sm), (22, .int .i64 sr)])
     (fun e env' w' => e = .normal ∧ ∃ w5, Keep w1.heap.size w2.heap.size w4 w5 ∧ Grew w5 w' ∧ subE [(23, .pointer (some ⟨w3.heap.size, 0, none⟩)), (4, x4), (5, x5), (6, x6), (9, x9), (10, .pointer (some ⟨b10, 0, none⟩)), (11, x11)] env') ?_ e3 ?_)
    ·repeat refine RTri.seq ?_
     refine RTri.region ?_;refine ak6 tbl (l := c19.toList) (fun j v hj => by rw [m9 (L19.trans h19), ← Array.getElem?_toList, Nat.zero_add]; exact hj) (by rw [Array.length_toList]; exact z19) (by kernel_rfl) ?_;refine ak6 tbl (l := c15.toList) (fun j v hj => by rw [m9 (L15.trans h15), ← Array.getElem?_toList, Nat.zero_add]; exact hj) (by rw [Array.length_toList]; exact z15) (by kernel_rfl) ?_;refine P9 ?_;refine P9 ?_;refine RL.callW rfl rfl rfl (by decide) #[.agg c19.toList.toArray, .agg c15.toList.toArray, .int .i64 er, .int .i64 er] (fun _ ha => aC6 (by kernel_rfl) rfl rfl ha) ?_
     refine Al.mono fun e w5 ⟨he, K5, W5⟩ => ⟨.bool true, by rw [he, bj1], ?_⟩
     have hsame45 : ∀ b : Nat, b < w4.heap.size → ¬ (w1.heap.size ≤ b ∧ b < w2.heap.size) → w5.heap[b]? = w4.heap[b]? := K5.block
     have L23' : w5.heap[w3.heap.size]? = some (.cells L23.toArray 32 (0, 0)) := (hsame45 _ (by omega) (by omega)).trans hw4n
     have L17 : w5.heap[b17]? = some (.cells c17 E17 (0, 0)) := (hsame45 _ (by omega) (by omega)).trans ((hsame24 b17 (by omega)).trans h17')
     obtain ⟨C5, hC5⟩ : ∃ C5 : Cfg, C5 = ⟨fun b o => C1.D b o ∨ (w2.heap.size ≤ b ∧ C3.D b o), fun _ => none, fun _ => none⟩ := ⟨_, rfl⟩
     have d5 : C5.D = fun b o => C1.D b o ∨ (w2.heap.size ≤ b ∧ C3.D b o) := by rw [hC5]
     have hc1 : ∀ b o, C1.D b o → w5.cell? ⟨b, o, none⟩ = w1.cell? ⟨b, o, none⟩ := fun b o hD => by
      have hb := hs1.dLt b o hD
      have h1 := hs2.keep b o hD
      have h2 := hcell24 b o (by omega)
      have h3 : w5.cell? ⟨b, o, none⟩ = w4.cell? ⟨b, o, none⟩ := by simp only [World.cell?, hsame45 b (by omega) (by omega)]
      exact h3.trans (h2.trans h1)
     have hc3 : ∀ b o, w2.heap.size ≤ b → C3.D b o → w5.cell? ⟨b, o, none⟩ = w3.cell? ⟨b, o, none⟩ := fun b o hb hD => by
      have hb3 := AA.dLt b o hD
      simp only [World.cell?, hsame45 b (by omega) (by omega), hw4b b hb3]
     have ty15 : TyKeep w1 w5 := (hs2.framed.ty.trans ty24).trans K5.ty
     have ty35 : TyKeep w3 w5 := ty34.trans K5.ty
     have F5 : Frag Tryz.prog gA C5 w5 [] [] :=
      ⟨fun l ob hl => (by cases hl), fun l l' b R R' ob ob' hl => (by cases hl), fun l ob b R o hl => (by cases hl), fun b o hD => (by
       have h5 := K5.size
       rw [d5] at hD
       rcases hD with hD | ⟨_, hD⟩
       ·have := hs1.dLt b o hD; omega
       ·have := AA.dLt b o hD; omega), fun b q k hb => (by rw [hC5] at hb; cases hb), hs1.gl.mono ⟨fun b o hD => ⟨by rw [d5]; exact .inl hD, hc1 b o hD⟩, fun l hl => (by cases hl), fun b q k hb hq => False.elim hq, ty15⟩⟩
     have q23 : PR Tryz.prog C5.D w5 (tmc 0 sn) L23 := by
      refine PR.low (p := tmc w2.heap.size sn) ?_ (A0 (Nat.zero_le w2.heap.size) sn);refine PR.mono (fun b o hD => ⟨by rw [d5]; exact .inr hD, hc3 b o hD.1 hD.2⟩) ty35 (PR.col (m := w2.heap.size) (by omega) (bp6 _ sn) pL)
     have q17 : PR Tryz.prog C5.D w5 (tmc 0 sn) c17.toList := PR.mono (fun b o hD => ⟨by rw [d5]; exact .inl hD, hc1 b o hD⟩) ty15 p17
     refine ca1 ?_;refine P9 ?_;refine P9 ?_;refine P9 ?_;refine bF9 tbl (u1 := .int .i64 sr) (u2 := .int .i64 sr) (u := .bool false) (by simp [M2, ap3]) rfl ?_;refine aT3 ?_;refine P9 ?_;refine P9 ?_;refine P9 ?_;refine bF9 tbl (u1 := .bool sm) (u2 := .bool sm) (u := .bool false) ((bi7 sm sm).trans (by simp)) rfl ?_;refine aT3 ?_;refine P9 ?_;refine P9 ?_;refine P9 ?_;refine bF9 tbl (u1 := .int .i64 sg) (u2 := .int .i64 sg) (u := .bool false) (by simp [M2, ap3]) rfl ?_;refine aT3 ?_;refine P9 ?_;refine ak6 tbl (l := L23) (fun j v hj => by rw [m9 L23', Nat.zero_add]; simpa using hj) (VR.length_ty (C := ⟨C3.D, fun _ => none, fun _ => none⟩) (pl := none) tbl (VR.pu pL) TyV.ok aX8) (by kernel_rfl) ?_
     refine ak6 tbl (l := c17.toList) (fun j v hj => by rw [m9 L17, ← Array.getElem?_toList, Nat.zero_add]; exact hj) (by rw [Array.length_toList]; exact z17) (by kernel_rfl) ?_;refine RL.callW rfl rfl rfl (by decide) #[.agg L23.toArray, .agg c17.toList.toArray] (fun _ ha => aC6 (by kernel_rfl) rfl rfl ha) ?_
     refine ((M7 (G := gA) _ sn sn (Nat.le_refl _) (by omega) (by omega)) C5 w5 #[.agg L23.toArray, .agg c17.toList.toArray] F5 (.cons (.pu (by simpa [Value.cells] using q23)) (aT8 sn) (.cons (.pu (by simpa [Value.cells] using q17)) (aT8 sn) .nil))).mono fun e w6 ⟨y, C6, he, A6⟩ => ⟨.bool true, by rw [he, A6.val.leaf_inv.1, D7], ?_⟩
     refine ca1 ?_;refine aT3 ?_;refine RL.nil ?_;exact RTri.cond rfl (fun h => by cases h) (fun _ => RTri.skip ⟨rfl, w5, K5, A6.grew, ⟨rfl, rfl, rfl, rfl, rfl, rfl, rfl, trivial⟩⟩)
    rintro e a6 w6' env6 hk6 ⟨he, w5, K5, g56, hsub6⟩
    subst he
    have e6 := hk6.less hsub6.get
    clear hsub6 hk6
    have hz5 := K5.size
    have hz6 := g56.size
    have hsame36 : ∀ b : Nat, w2.heap.size ≤ b → b < w3.heap.size → w6'.heap[b]? = w3.heap[b]? := fun b h1 h2 => (g56.block b (by omega)).trans ((K5.block b (by omega) (by omega)).trans (hw4b b h2))
    have L23'' : w6'.heap[w3.heap.size]? = some (.cells L23.toArray 32 (0, 0)) := (g56.block _ (by omega)).trans ((K5.block _ (by omega) (by omega)).trans hw4n)
    have hsoft23 : P7 w2.heap.size w3.heap.size w6' 800 L23 := N1 (Wore.same hsame36) 800 L23 (ah8 (by omega) (Nat.le_refl _) 800 sn L23 hsz (by omega) pL)
    refine wpIn_seq (RTri.use (n := 152) (env := [(23, .pointer (some ⟨w3.heap.size, 0, none⟩)), (4, x4), (5, x5), (6, x6), (9, x9), (10, .pointer (some ⟨b10, 0, none⟩)), (11, x11)]) (fun e env' w' => e = .normal ∧ Keep w2.heap.size w3.heap.size w6' w' ∧ subE [(4, x4), (5, x5), (6, x6), (9, x9), (10, .pointer (some ⟨b10, 0, none⟩)), (11, x11)] env') ?_ e6 ?_)
    ·refine RTri.region ?_
     refine ak6 tbl (l := L23) (fun j v hj => by rw [m9 L23'', Nat.zero_add]; simpa using hj) (VR.length_ty (C := ⟨C3.D, fun _ => none, fun _ => none⟩) (pl := none) tbl (VR.pu pL) TyV.ok aX8) (by kernel_rfl) ?_;refine RL.callW rfl rfl rfl (by decide) #[.agg L23.toArray] (fun _ ha => aC6 (by kernel_rfl) rfl rfl ha) ?_
     refine (ar7 800 w2.heap.size w3.heap.size w6' L23 hsoft23 (by omega)).mono fun e w7 ⟨⟨v, he⟩, K7, W7⟩ => ⟨v, he, ?_⟩
     refine RL.nil ?_;exact ⟨rfl, K7, ⟨rfl, rfl, rfl, rfl, rfl, rfl, trivial⟩⟩
    rintro e a7 w7 env7 hk7 ⟨he, K7, v4, v5, v6, v9, v10, v11, _⟩
    subst he
    have K27 : Keep w1.heap.size (w3.heap.size + 1) w2 w7 := ((K24.trans (K5.wide (Nat.le_refl _) (by omega))).trans (Keep.of_grew g56)).trans (K7.wide hm12 (by omega))
    subst hM1
    have hsp := hs1.spoilt (hi := w3.heap.size + 1) rfl hs2 (env0 := [(4, .ptr 4 [] 26), (5, .ptr 5 [] 32), (6, .ptr 6 [] 32), (9, .ptr 9 [] 26), (10, .ptr 10 [] 32), (11, .ptr 11 [] 32)]) rfl
     (i9 (e' := [(4, .ptr 4 [] 26), (5, .ptr 5 [] 32), (6, .ptr 6 [] 32), (9, .ptr 9 [] 26), (10, .ptr 10 [] 32), (11, .ptr 11 [] 32)]) (h' := []) zE zH).env K27 hk7.size (a' := a7) (fun i v hv => by
      have hmem := y9 hv
      simp only [List.mem_cons, List.not_mem_nil, or_false, Prod.mk.injEq] at hmem
      rcases hmem with ⟨rfl, _⟩ | ⟨rfl, _⟩ | ⟨rfl, _⟩ | ⟨rfl, _⟩ | ⟨rfl, _⟩ | ⟨rfl, _⟩
      ·exact (hk7.env _ _ v4).trans s4.symm
      ·exact (hk7.env _ _ v5).trans s5.symm
      ·exact (hk7.env _ _ v6).trans s6.symm
      ·exact (hk7.env _ _ v9).trans s9.symm
      ·exact (hk7.env _ _ v10).trans s10.symm
      ·exact (hk7.env _ _ v11).trans s11.symm) hk7.defers
    refine Tri.at hsp ?_;refine tQ ?_;refine Y22 ?_;refine Dq (M7 _ t t (Nat.le_refl _) (by omega) (by omega)) ?_;refine ay2 ?_;refine f7 zG (c8 (fun _ => M7 _ u u (Nat.le_refl _) (by omega) (by omega))) ?_;refine yN ?_;refine Y37 ?_;refine Y6 ?_;refine xP ?_;refine f7 zG (c8 (fun _ => aD1 ts ts hl hl hts hts)) ?_;refine yN ?_;refine yM ?_;refine f7 zG (c8 (fun _ => awake_c)) ?_;refine yN ?_;refine Y8 ?_;refine Rq ?_;exact m0 (by simp [D7, ae3])
section
instance : AgT Tryz.prog 28 (List.replicate 32 5) := ⟨by kernel_rfl⟩
variable {G : List (Nat × TypeId × Pu)}
theorem cm3 (n : Int) : FCall Tryz.prog G 63 [iv .i64 n] (.pu (tmc 0 (.mk 7 n Z32 [] []))) := by
 refine Fq 5 Tryz.func63 ?_;intro w0 M ρ0 D0
 refine yR ?_;refine b9 SS 2 ?_;refine b8 [2] ?_;refine Y1 ?_;refine Y75 ?_;refine Rc ?_;exact ToPu.imp (by repeat constructor)
theorem cm5 (s t : Tm) : FCall Tryz.prog G 44 [.pu (tmc 0 s), .pu (tmc 0 t)] (.pu (tmc 0 (.mk 5 0 Z32 [s, t] []))) := by
 refine Fq 9 Tryz.func44 ?_;intro w0 M ρ0 D0
 refine Y57 ?_;refine b9 SS 4 ?_;refine b8 [2, 3, 4] ?_;refine Y22 ?_;refine yZ ?_;refine Y75 ?_;refine Rc ?_;exact ToPu.imp (by repeat constructor)
theorem bQ5 (ps : List Pu) (hlen : ps.length < 1000000000) : OCall Tryz.prog G 73 [.pu (.sl 0 116 ps)] 0 116 ps := by
 refine OCall.of_tri 8 2 Tryz.func73 rfl rfl rfl fun w0 M ρ0 D0 => ?_
 refine Y10 ?_;refine Tri.nilEq rfl (fun b hb => ?_);refine tQ ?_;refine Tri.cond rfl (fun h => ?_) (fun h => ?_)
 ·skip
  refine Y21 ?_;exact Tri.ret ⟨.inr rfl, .inr ⟨rfl, hb h⟩⟩
 ·refine Tri.skip ?_
  refine yR ?_;refine yZ ?_;refine yM ?_;refine ce0 ?_ ?_
  ·simp; omega
  refine Y8 ?_;exact Tri.ret ⟨.inr rfl, .inl rfl⟩
theorem ba9 (T : TypeId) (n : Int) : M2 Tryz.prog .shr T (iv .u64 n) (iv .u64 32) = some (iv .u64 (n.fdiv (2 ^ 32))) := by
 simp [M2, iv, IntKind.bits]
theorem bZ8 : FCall Tryz.prog G 204 [iv .u64 1, iv .u64 4] (.tup [iv .u64 0, iv .u64 4]) := by
 refine Fq 51 Tryz.func204 ?_;intro w0 M ρ0 D0
 refine Y3 ?_;refine yB ?_;refine B5 ?_;refine Y40 ?_;refine Y1 ?_;refine b5 (D4 SS (h := ba9 _ _)) ?_;refine Y8 ?_;refine Y40 ?_;refine Y1 ?_;refine b5 (D4 SS (h := ba9 _ _)) ?_;refine Y8 ?_;refine Y62 ?_;refine Y8 ?_;refine Y62 ?_;refine yM ?_;refine b5 (D4 SS (h := ba9 _ _)) ?_;refine yI ?_;refine Y8 ?_;refine Y40 ?_;refine Y1 ?_;refine b5 (D4 SS (h := ba9 _ _)) ?_;refine Y8 ?_;refine Y17 ?_;refine yM ?_;refine yI ?_;refine yI ?_;refine Y8 ?_;refine Y62 ?_;refine yM ?_
 refine yI ?_;refine yM ?_;refine b5 (D4 SS (h := ba9 _ _)) ?_;refine yI ?_;refine Y8 ?_;refine Y62 ?_;refine Y2 ?_;exact Tri.ret ⟨.inr rfl, q8 rfl b4 (c7 (by decide)) b4 (c7 (by decide))⟩
theorem cm4 : FCall Tryz.prog G 139 [iv .u64 1, iv .u64 4] (.tup [iv .u64 0, iv .u64 4]) := by
 refine Fq 30 Tryz.func139 ?_;intro w0 M ρ0 D0
 refine aq5 ?_;refine Cq ?_ ?_
 ·intro h0;exfalso
  simp at h0
 ·intro h0
  refine Tri.skip ?_;refine Y17 ?_;refine Dq bZ8 ?_;refine Y80 ?_;refine ay3 ?_;exact Tri.ret ⟨.inr rfl, q8 rfl b4 (ToPu.imp (by repeat constructor)) b4 (ToPu.imp (by repeat constructor))⟩
theorem bw5 (n : Int) : an5 Tryz.prog 3 113 (iv .i64 n) = some (iv .u64 (IntKind.u64.wrap n)) := by
 have hu : Tryz.prog.underlying 113 = some (.int .u64) := by kernel_rfl
 have hi : Tryz.prog.underlying 3 = some (.int .i64) := by kernel_rfl
 unfold an5 iv
 simp only [hu, hi]
theorem aM2 (n : Int) : an5 Tryz.prog 3 5 (iv .i64 n) = some (iv .u8 (IntKind.u8.wrap n)) := by
 have hu : Tryz.prog.underlying 5 = some (.int .u8) := by kernel_rfl
 have hi : Tryz.prog.underlying 3 = some (.int .i64) := by kernel_rfl
 unfold an5 iv
 simp only [hu, hi]
theorem bX5 (n : Int) : an5 Tryz.prog 113 3 (iv .u64 n) = some (iv .i64 (IntKind.i64.wrap n)) := by
 have hu : Tryz.prog.underlying 113 = some (.int .u64) := by kernel_rfl
 have hi : Tryz.prog.underlying 3 = some (.int .i64) := by kernel_rfl
 unfold an5 iv
 simp only [hu, hi]
def ah2 : Pu := .agg 32 [.leaf (.int .i64 0), .leaf (.int .i64 0), l4 Z32, .sl 0 32 [], .sl 0 106 []]
theorem bA5 (t : Tm) : FCall Tryz.prog G 74 [.pu (.sl 0 32 (l8 0 [t])), iv .i64 4] (.pu (.sl 0 32 (l8 0 [t, t, t, t]))) := by
 refine Fq 48 Tryz.func74 ?_;intro w0 M ρ0 D0
 have h1 : IntKind.u64.wrap ((l8 0 [t]).length : Int) = 1 := by show IntKind.u64.wrap ((1 : Nat) : Int) = 1; decide
 have h4 : IntKind.u64.wrap 4 = 4 := by decide
 have h4' : IntKind.i64.wrap 4 = 4 := by decide
 have hc : l8 0 [t] = [tmc 0 t] := rfl
 have hd : l8 0 [t, t, t, t] = [tmc 0 t, tmc 0 t, tmc 0 t, tmc 0 t] := rfl
 refine Y21 ?_;refine Y30 ?_;refine Cq ?_ ?_
 ·intro h0;exfalso
  simp at h0
 ·intro h0
  refine Y87 ?_;refine yC ?_;refine b5 (av6 SS (hu := bw5 _)) ?_;rw [h1];refine yM ?_;refine b5 (av6 SS (hu := bw5 _)) ?_;rw [h4];refine Dq cm4 ?_;refine Y80 ?_;refine Y58 ?_;refine Y92 ?_;refine Cq ?_ ?_
  ·intro h1;exfalso
   simp at h1
  ·intro h1
   refine Y87 ?_;refine b5 (av6 SS (hu := bX5 _)) ?_;rw [h4'];refine bl9 SS (n := 4) 60 (by decide) (by decide) ?_;refine yA ?_;refine b8 [60] ?_;refine Tri.rowPu (l := 60) (vs := List.replicate 4 (.agg 32 [iv .i64 0, iv .i64 0, .pu (l4 Z32), .nilc, .nilc])) (qs := [ah2, ah2, ah2, ah2]) (.cons (.pu (by repeat constructor)) (.cons (.pu (by repeat constructor)) (.cons (.pu (by repeat constructor)) (.cons (.pu (by repeat constructor)) .nil)))) ?_;refine Y17 ?_;refine bT5 SS (l := 60) (off := 0) (n := 4) (qs := [ah2, ah2, ah2, ah2]) (ps := [tmc 0 t]) (by decide) (by simp) ?_;refine Y2 ?_
   refine Tri.block (Tri.loopW (σ := {j : Nat × Nat // j = (0, 1) ∨ j = (1, 2) ∨ j = (2, 4)}) (fun i => ⟨[(7, .arr 60 32 0 4), (8, iv .i64 (i.1.2 : Nat))], [(60, .row 32 ((List.replicate i.1.2 (tmc 0 t) ++ List.replicate (4 - i.1.2) ah2).map .pu))]⟩) (fun i => 2 - i.1.1) ⟨(0, 1), .inl rfl⟩ ?_ ?_ (fun i => ?_))
   ·exact zW
   ·exact zW
   refine Y17 ?_;refine Y47 ?_;refine Cq ?_ ?_
   ·intro h2
    obtain ⟨⟨ja, jb⟩, hj⟩ := i
    have hjj : ja = 0 ∧ jb = 1 ∨ ja = 1 ∧ jb = 2 := by
     rcases hj with h | h | h
     ·simp at h; exact .inl h
     ·simp at h; exact .inr h
     ·simp at h; obtain ⟨rfl, rfl⟩ := h; exact absurd (show ((4 : Nat) : Int) < ((4 : Nat) : Int) from of_decide_eq_true h2) (by decide)
    have hnext : (ja + 1, jb + jb) = (0, 1) ∨ (ja + 1, jb + jb) = (1, 2) ∨ (ja + 1, jb + jb) = (2, 4) := by rcases hjj with ⟨rfl, rfl⟩ | ⟨rfl, rfl⟩ <;> decide
    have hj4 : jb < 4 := by omega
    have hkm : jb = Nat.min (jb - 0) (4 - jb) := by rcases hjj with ⟨_, rfl⟩ | ⟨_, rfl⟩ <;> decide
    obtain ⟨qs, hqs⟩ : ∃ qs, qs = List.replicate jb (tmc 0 t) ++ List.replicate (4 - jb) ah2 := ⟨_, rfl⟩
    have hql : qs.length = 4 := by rw [hqs]; simp; omega
    have hrow : qs.take (0 + jb) ++ (qs.drop (0 + 0)).take jb ++ qs.drop (0 + jb + jb) = List.replicate (jb + jb) (tmc 0 t) ++ List.replicate (4 - (jb + jb)) ah2 := by rw [hqs]; rcases hjj with ⟨_, rfl⟩ | ⟨_, rfl⟩ <;> rfl
    have hwr : IntKind.i64.wrap ((jb : Int) + (jb : Int)) = ((jb + jb : Nat) : Int) := by rw [b7 (by omega) (by omega)]; omega
    dsimp only
    rw [← hqs];refine Y20 ?_;refine Y17 ?_;refine yM ?_;refine bb7 SS (i := jb) (n := 4) hj4 ?_;refine Y48 ?_;refine bz9 SS (j := jb) (n := 4) (by omega) (by decide) ?_;refine bT4 SS (l := 60) (k := jb) (off := 0 + jb) (n := 4 - jb) (off2 := 0 + 0) (n2 := jb - 0) (qs := qs) (by omega) (by omega) hkm ?_;rw [hrow];refine yI ?_;rw [hwr];refine av1 ?_
    refine ⟨⟨(ja + 1, jb + jb), hnext⟩, by show 2 - (ja + 1) < 2 - ja; omega, i9 ?_ ?_⟩
    ·exact zE
    ·exact zH
   ·intro h2
    obtain ⟨⟨ja, jb⟩, hj⟩ := i
    obtain ⟨rfl, rfl⟩ : ja = 2 ∧ jb = 4 := by
     rcases hj with h | h | h
     ·simp at h; obtain ⟨rfl, rfl⟩ := h; exact absurd (show ((1 : Nat) : Int) < ((4 : Nat) : Int) by decide) (of_decide_eq_false h2)
     ·simp at h; obtain ⟨rfl, rfl⟩ := h; exact absurd (show ((2 : Nat) : Int) < ((4 : Nat) : Int) by decide) (of_decide_eq_false h2)
     ·simpa using h
    refine Tri.exit ?_;refine Tri.freeze (lo := 0) (l := 60) (E := 32) (ps := [tmc 0 t, tmc 0 t, tmc 0 t, tmc 0 t]) (env' := [(7, .pu (.sl 0 32 [tmc 0 t, tmc 0 t, tmc 0 t, tmc 0 t]))]) (heap' := []) rfl (.inl rfl) ?_;refine Y88 ?_;refine Rq ?_;exact ToPu.imp (by repeat constructor)
theorem aF7 : ∀ x ∈ worldT, rgT x.2 := by
 intro x hx
 simp only [worldT, List.mem_cons, List.not_mem_nil, or_false] at hx
 rcases hx with rfl | rfl | rfl | rfl <;> simp [laM, prM, vaM, nuM, maM, apM, deM, rgT, rgK, rgC, rgS]
theorem aq9 : ∀ x ∈ worldT, a8 x.2 < 2^40 := by
 intro x hx
 simp only [worldT, List.mem_cons, List.not_mem_nil, or_false] at hx
 rcases hx with rfl | rfl | rfl | rfl <;> decide
theorem bZ3 {t : Tm} {n : Int} (hz : a8 t ≤ 2000) (hrg : rgT t) : FCall Tryz.prog gL 64 [.pu (tmc 0 t), iv .i64 n] (bv true) := by
 have h1 := (ar6 aF9 aF8 worldT t (by decide) aq9 (by omega) hrg).moreG ac6
 have h2 := (az3 aF9 aF8 worldT t n (by decide) aq9 (by omega) hrg aF7).moreG ac6
 have h3 := (ao1 aF9 aF8 worldT t (am7 X0) n (by decide) aq9 (by omega) (by decide) hrg (by simp [am7, X0, prM, S9, apM, vaM, nuM, rgT, rgK, rgC]) aF7).moreG ac6
 have h4 := (ao1 aF9 aF8 worldT (am7 Q0) t 40 (by decide) aq9 (by decide) (by omega) (by simp [am7, Q0, prM, S9, apM, vaM, nuM, rgT, rgK, rgC]) hrg aF7).moreG ac6
 refine Fq 31 Tryz.func64 ?_;intro w0 M ρ0 D0
 refine Y36 ?_;refine yB ?_;refine b8 [2] ?_;refine yR ?_;refine Dq bx7 ?_;refine aC5 ?_;refine Y22 ?_;refine Dq h1 ?_;refine ay2 ?_;refine xM ?_;refine f7 zG (c8 (fun _ => h2)) ?_;refine yN ?_;refine ay2 ?_;refine f7 zG (c8 (fun _ => aN2)) ?_;refine f7 zG (c8 (fun _ => (Q9 X0).moreG ac6)) ?_;refine xM ?_;refine f7 zG (c8 (fun _ => h3)) ?_;refine yN ?_;refine Y37 ?_;refine f7 zG (c8 (fun _ => aF2)) ?_;refine f7 zG (c8 (fun _ => (Q9 Q0).moreG ac6)) ?_;refine xL ?_;refine f7 zG (c8 (fun _ => h4)) ?_;refine yN ?_;refine yA ?_;refine Y42 ?_;refine Rq ?_;exact m0 rfl
end
def am9 (r : List Int) (n : Int) (ks : List Tm) : Tm := .mk 8 n r ks []
def bV5 (s t : Tm) : Tm := .mk 5 0 Z32 [s, t] []
def aN8 (r : List Int) (ks : List Tm) : Tm := .mk 12 0 r ks []
def br8 (n : Int) : Tm := .mk 7 n Z32 [] []
def L15 : List Tm := [nuM 0, nuM 2, laM (vaM 0), laM (prM 1 (vaM 0) (nuM 1)), prM 1 (nuM 1) (nuM 2), apM (nuM 1) (nuM 1), S9 (j5 11) 0 (nuM 3), S9 (j5 12) 1 (nuM 3), deM (j5 21), deM (j5 99), am9 (j5 2) 1 [nuM 1, am9 (j5 2) 0 []], am9 (j5 4) 1 [prM 5 (nuM 1) (nuM 2)], maM (nuM 1) [], vaM 0, br8 0]
def Gd (t : Tm) : Prop := a8 t ≤ 400 ∧ rgT t
theorem L3 (t : Tm) (n : Int) (h : Gd t) : FCall Tryz.prog gL 64 [.pu (tmc 0 t), iv .i64 n] (bv true) := bZ3 (Nat.le_trans h.1 (by decide)) h.2
theorem bR9 : ∀ x ∈ L15, a8 x ≤ 10 ∧ rgT x := by
 intro x hx
 simp only [L15, List.mem_cons, List.not_mem_nil, or_false] at hx
 rcases hx with rfl | rfl | rfl | rfl | rfl | rfl | rfl | rfl | rfl | rfl | rfl | rfl | rfl | rfl | rfl
 all_goals exact ⟨by decide, by simp [laM, prM, vaM, nuM, maM, apM, deM, S9, am9, br8, rgT, rgK, rgC]⟩
def ac4 (l : List Int) : List Pu := l.map fun n => .leaf (.int .i64 n)
theorem aE2 {l : List Int} {i : Nat} (h : i < l.length) : (ac4 l)[i]? = some (.leaf (.int .i64 l[i])) := by simp [ac4, h]
def La8 : List Int := [0, 1, 2, 32767, 32768, 32769, 1073741823, 1073741824]
def Lb5 : List Int := [0, 1, 2, 32768, 1073741824]
def Lc11 : List Int := [-9223372036854775808, -1, 0, 1, 39, 40, 41, 1999, 2000, 2001, 9223372036854775807]
def Ld4 : List Int := [8, 60, 300, 1000]
theorem cm7 : ∀ x ∈ La8, 0 ≤ x ∧ x ≤ 1073741824 := by decide
theorem cm6 : ∀ x ∈ Lb5, 0 ≤ x ∧ x ≤ 1073741824 := by decide
def ad0 : Tm := apM (deM (j5 24)) (nuM 5)
def an9 : List KT := worldT ++ [(j5 22, laM (laM (prM 1 (vaM 1) (vaM 0))))]
def openW : List KT := [(j5 1, vaM 0), (j5 2, br8 0)]
def aA5 : List KT := [(j5 1, am9 (j5 3) 0 [deM (j5 2), deM (j5 1)]), (j5 2, laM (am9 (j5 3) 0 [nuM 1, nuM 1, nuM 1, nuM 1])), (j5 3, laM (apM (deM (j5 3)) (am9 (j5 3) 0 [vaM 0, vaM 0])))]
def at0 (n : Nat) : List KT := (List.range n).map fun (j : Nat) => (j5 (j : Int), nuM (j : Int))
theorem bB9 (n : Nat) : (at0 n).map ktP ++ [ktP (j5 n, nuM n)] = (at0 (n + 1)).map ktP := by simp [at0, List.range_succ]
def Gw (ts : List KT) : Prop := ts.length ≤ 100 ∧ ∀ x ∈ ts, a8 x.2 ≤ 400 ∧ rgT x.2
theorem Gw.sz {ts : List KT} (h : Gw ts) : ∀ x ∈ ts, a8 x.2 < 2^40 := fun x hx => Nat.lt_of_le_of_lt (h.2 x hx).1 (by decide)
theorem au5 (a b : Pu) (ts : List KT) (t : Tm) (hw : Gw ts) (h : Gd t) : FCall Tryz.prog gL 3 [.pu (wdP a b ts), .pu (tmc 0 t)] (bv true) :=
 (ar6 a b ts t (Nat.lt_of_le_of_lt hw.1 (by decide)) hw.sz (Nat.lt_of_le_of_lt h.1 (by decide)) h.2).moreG ac6
theorem aT9 (a b : Pu) (ts : List KT) (t : Tm) (n : Int) (hw : Gw ts) (h : Gd t) : FCall Tryz.prog gL 7 [.pu (wdP a b ts), .pu (tmc 0 t), iv .i64 n] (bv true) :=
 (az3 a b ts t n (Nat.lt_of_le_of_lt hw.1 (by decide)) hw.sz (Nat.lt_of_le_of_lt h.1 (by decide)) h.2 (fun x hx => (hw.2 x hx).2)).moreG ac6
theorem aU9 (a b : Pu) (ts : List KT) (t u : Tm) (n : Int) (hw : Gw ts) (h : Gd t) (k : Gd u) : FCall Tryz.prog gL 8 [.pu (wdP a b ts), .pu (tmc 0 t), .pu (tmc 0 u), iv .i64 n] (bv true) :=
 (ao1 a b ts t u n (Nat.lt_of_le_of_lt hw.1 (by decide)) hw.sz (Nat.lt_of_le_of_lt h.1 (by decide)) (Nat.lt_of_le_of_lt k.1 (by decide)) h.2 k.2 (fun x hx => (hw.2 x hx).2)).moreG ac6
theorem bo1 (p : Pat) (t : Tm) (hp : l9 p ≤ 400) (h : Gd t) : FCall Tryz.prog gL 70 [.pu (v7 0 p), .pu (tmc 0 t)] (bv true) :=
 (bl5 p t (Nat.lt_of_le_of_lt hp (by decide)) (Nat.lt_of_le_of_lt h.1 (by decide))).moreG ac6
theorem bq8 : Gw an9 := ⟨by decide, by
 intro x hx
 simp only [an9, worldT, List.cons_append, List.nil_append, List.mem_cons, List.not_mem_nil, or_false] at hx
 rcases hx with rfl | rfl | rfl | rfl | rfl <;> exact ⟨by decide, by simp [laM, prM, vaM, nuM, maM, apM, deM, rgT, rgK, rgC, rgS]⟩⟩
theorem bm8 : Gw openW := ⟨by decide, by
 intro x hx
 simp only [openW, List.mem_cons, List.not_mem_nil, or_false] at hx
 rcases hx with rfl | rfl <;> exact ⟨by decide, by simp [vaM, br8, rgT, rgK, rgC]⟩⟩
theorem bU9 : Gw (openW.drop 1) := ⟨by decide, fun x hx => bm8.2 x (List.mem_of_mem_drop hx)⟩
theorem ci7 : Gw [] := ⟨by decide, by simp⟩
theorem aW3 : Gw aA5 := ⟨by decide, by
 intro x hx
 simp only [aA5, List.mem_cons, List.not_mem_nil, or_false] at hx
 rcases hx with rfl | rfl | rfl <;> exact ⟨by decide, by simp [laM, vaM, nuM, apM, deM, am9, rgT, rgK, rgC]⟩⟩
theorem cf1 {n : Nat} (hn : n ≤ 42) : Gw (at0 n) := ⟨by simp [at0]; omega, by
 intro x hx
 obtain ⟨j, hj, rfl⟩ := List.mem_map.1 hx
 have := List.mem_range.1 hj
 exact ⟨by simp [nuM, a8, d7, f6], by simp [nuM, rgT, rgK, rgC]; omega⟩⟩
theorem bm9 {n : Int} (h : -2^63 ≤ n ∧ n < 2^63) : Gd (nuM n) := ⟨by simp [nuM, a8, d7, f6], by simpa [nuM, rgT, rgK, rgC] using h⟩
theorem bE5 (r : List Int) : Gd (deM r) := ⟨by simp [deM, a8, d7, f6], by simp [deM, rgT, rgK, rgC]⟩
theorem bZ5 {s t : Tm} (h : a8 s + a8 t ≤ 300) (hs : rgT s) (ht : rgT t) : Gd (apM s t) := ⟨by simp only [apM, a8, d7, f6]; omega, by simp [apM, rgT, rgK, rgC, hs, ht]⟩
theorem ci4 {n : Int} {s t : Tm} (hn : 0 ≤ n ∧ n ≤ 10) (h : a8 s + a8 t ≤ 300) (hs : rgT s) (ht : rgT t) : Gd (prM n s t) := ⟨by simp only [prM, a8, d7, f6]; omega, by simp [prM, rgT, rgK, rgC, hs, ht]; omega⟩
theorem aj8 : Gd ad0 := bZ5 (by decide) (bE5 _).2 (bm9 (by decide)).2
theorem ca8 {x : Tm} (h : a8 x ≤ 300) (hr : rgT x) : Gd (am7 x) := ⟨by simp only [am7, prM, S9, nuM, vaM, a8, d7, f6]; omega, by simp [am7, prM, S9, nuM, vaM, rgT, rgK, rgC, hr]⟩
theorem cl9 {r : List Int} {n : Int} {x : Tm} (hn : 0 ≤ n ∧ n ≤ 100) (h : a8 x ≤ 300) (hr : rgT x) : Gd (S9 r n x) := ⟨by simp only [S9, a8, d7, f6]; omega, by simp [S9, rgT, rgK, rgC, hr]; omega⟩
theorem cj4 {x : Tm} (h : a8 x ≤ 300) (hr : rgT x) : Gd (bV5 x (prM 1 (vaM 0) (vaM 0))) := ⟨by simp only [bV5, prM, vaM, a8, d7, f6]; omega, by simp [bV5, prM, vaM, rgT, rgK, rgC, hr]⟩
def bV3 (x : Tm) : Tm := maM x [.mk (pnM 2) (nuM 5), .mk (pcM (j5 2) 1 [T3, T3]) (prM 1 (vaM 1) (nuM 1))]
theorem cj0 {x : Tm} (h : a8 x ≤ 300) (hr : rgT x) : Gd (bV3 x) := ⟨by simp only [bV3, maM, prM, vaM, nuM, pnM, pcM, T3, a8, d7, f6, p9, l9, u5]; omega, by simp [bV3, maM, prM, vaM, nuM, rgT, rgK, rgC, rgS, hr]⟩
theorem ck7 {x y : Tm} (h : a8 x + a8 y ≤ 300) (hr : rgT x) (hs : rgT y) : Gd (am9 (j5 3) 0 [x, y]) := ⟨by simp only [am9, a8, d7, f6]; omega, by simp [am9, rgT, rgK, rgC, hr, hs]⟩
theorem cj5 {x y : Tm} (h : a8 x ≤ 100) (k : a8 y ≤ 100) (hr : rgT x) (hs : rgT y) : Gd (aN8 (j5 11) [x, apM (vaM 0) y, y]) := ⟨by simp only [aN8, apM, vaM, a8, d7, f6]; omega, by simp [aN8, apM, vaM, rgT, rgK, rgC, hr, hs]⟩
def twoL : List Tm := [X0, vaM 1, Q0, S9 (j5 11) 0 X0]
theorem bS6 : ∀ x ∈ twoL, a8 x ≤ 20 ∧ rgT x := by
 intro x hx
 simp only [twoL, List.mem_cons, List.not_mem_nil, or_false] at hx
 rcases hx with rfl | rfl | rfl | rfl <;> exact ⟨by decide, by simp [X0, Q0, prM, vaM, nuM, apM, S9, rgT, rgK, rgC]⟩
def ch0 (one : List Int) (z n : Int) (two : Tm) : Tm := aN8 (j5 11) [aN8 one [prM 1 (S9 (j5 11) z (nuM 4)) (nuM n), prM 3 (vaM 0) (nuM 3), two], prM 1 (vaM 0) (nuM 100), Q0, X0]
theorem cl0 {one : List Int} {z n : Int} {two : Tm} (hz : 0 ≤ z ∧ z ≤ 100) (hn : 0 ≤ n ∧ n ≤ 100) (h : a8 two ≤ 20) (hr : rgT two) : Gd (ch0 one z n two) :=
 ⟨by simp only [ch0, aN8, prM, S9, Q0, X0, apM, vaM, nuM, a8, d7, f6]; omega, by simp [ch0, aN8, prM, S9, Q0, X0, apM, vaM, nuM, rgT, rgK, rgC, hr]; omega⟩
theorem bit1 : ∀ n : Nat, n < 16 → IntKind.i64.wrap (BitVec.ofInt IntKind.i64.bits (n : Int) &&& BitVec.ofInt IntKind.i64.bits 1).toNat = ((n % 2 : Nat) : Int) := by decide
theorem bit3 : ∀ n : Nat, n < 16 → IntKind.i64.wrap (BitVec.ofInt IntKind.i64.bits ((n : Int).fdiv (2 ^ 1)) &&& BitVec.ofInt IntKind.i64.bits 3).toNat = ((n / 2 % 4 : Nat) : Int) := by decide
theorem bit8 : ∀ n : Nat, n < 16 → 0 ≤ (n : Int).fdiv (2 ^ 3) ∧ (n : Int).fdiv (2 ^ 3) ≤ 100 := by decide
theorem shr1 (T : TypeId) (n : Int) : M2 Tryz.prog .shr T (iv .i64 n) (iv .u64 1) = some (iv .i64 (n.fdiv (2 ^ 1))) := by
 simp [M2, iv, IntKind.bits]
theorem shr3 (T : TypeId) (n : Int) : M2 Tryz.prog .shr T (iv .i64 n) (iv .u64 3) = some (iv .i64 (n.fdiv (2 ^ 3))) := by
 simp [M2, iv, IntKind.bits]
set_option maxHeartbeats 8000000 in
set_option maxRecDepth 8000 in
theorem ba4 : FCall Tryz.prog gL 10 [] (bv true) := by
 refine Fq 451 Tryz.func10 ?_;intro w0 M ρ0 D0
 refine Y21 ?_;refine yR ?_;refine Dq (F8 0) ?_;refine Dq (F8 2) ?_;refine Dq (P6 0) ?_;refine Dq (aO2 (vaM 0)) ?_;refine Dq (P6 0) ?_;refine Dq (F8 1) ?_;refine Dq (ah1 1 (vaM 0) (nuM 1)) ?_;refine Dq (aO2 (prM 1 (vaM 0) (nuM 1))) ?_;refine Dq (F8 1) ?_;refine Dq (F8 2) ?_;refine Dq (ah1 1 (nuM 1) (nuM 2)) ?_;refine Dq (F8 1) ?_;refine Dq (F8 1) ?_;refine Dq (aq8 (nuM 1) (nuM 1)) ?_;refine yG ?_;refine Dq (F8 3) ?_;refine Dq (aN4 (j5 11) 0 (nuM 3)) ?_;refine yG ?_;refine Dq (F8 3) ?_
 refine Dq (aN4 (j5 12) 1 (nuM 3)) ?_;refine yG ?_;refine Dq (aq7 (j5 21)) ?_;refine yP ?_;refine Dq (aq7 (j5 99)) ?_;refine yG ?_;refine Dq (F8 1) ?_;refine yG ?_;refine Dq (bp9 (j5 2) 0 []) ?_;refine yZ ?_;refine Dq (bp9 (j5 2) 1 [nuM 1, am9 (j5 2) 0 []]) ?_;refine yG ?_;refine Dq (F8 1) ?_;refine Dq (F8 2) ?_;refine Dq (ah1 5 (nuM 1) (nuM 2)) ?_;refine yZ ?_;refine Dq (bp9 (j5 4) 1 [prM 5 (nuM 1) (nuM 2)]) ?_;refine Dq (F8 1) ?_;refine Dq (bR8 (nuM 1) []) ?_;refine Dq (P6 0) ?_;refine Dq (cm3 0) ?_;refine yZ ?_;refine av1 ?_;refine Y1 ?_
 refine Y43 ?_;refine Tri.block (Tri.loopW (σ := Nat) (fun i => ⟨[(1, .pu (.sl 0 32 (l8 0 L15))), (69, .pu (.sl 0 32 (l8 0 L15))), (70, iv .i64 (l8 0 L15).length), (71, iv .i64 i)], []⟩) (fun i => 15 - i) 0 ?_ ?_ (fun i => ?_))
 ·exact zW
 ·exact zW
 refine Y41 ?_;refine Cq ?_ ?_
 ·intro h0
  have hi : i < 15 := by have := of_decide_eq_true h0; rw [a9] at this; simp [L15] at this; omega
  have hi' : i < L15.length := hi
  have hget := q7 (lo := 0) hi'
  have hx := bR9 _ (List.getElem_mem hi')
  generalize L15[i] = x at hget hx
  obtain ⟨hxz, hxr⟩ := hx
  generalize i = i0 at *
  refine Y20 ?_;refine Y1 ?_;refine Xq hget ?_;refine yL ?_;refine b9 SS 3 ?_;refine yA ?_;refine yS ?_;refine b8 [3] ?_;refine Y65 ?_;refine yI ?_;refine Dq (L3 x _ ⟨by omega, hxr⟩) ?_;refine yQ ?_;refine Y37 ?_;refine f7 zG (c8 (fun _ => P6 0)) ?_;refine f7 zG (c8 (fun _ => P6 0)) ?_;refine f7 zG (c8 (fun _ => ah1 1 (vaM 0) (vaM 0))) ?_;refine f7 zG (c8 (fun _ => cm5 x (prM 1 (vaM 0) (vaM 0)))) ?_;refine f7 zG (c8 (fun _ => L3 (bV5 x (prM 1 (vaM 0) (vaM 0))) 9 (cj4 (by omega) hxr))) ?_;refine aq3 ?_;refine Y37 ?_;refine f7 zG (c8 (fun _ => ch4 2)) ?_;refine f7 zG (c8 (fun _ => F8 5)) ?_;refine f7 zG (c8 (fun _ => bq1 (pnM 2) (nuM 5))) ?_
  refine f7 zG (N9 SS) ?_;refine f7 zG (c8 (fun _ => aT1)) ?_;refine f7 zG (c8 (fun _ => aT1)) ?_;refine f7 zG (by3 SS) ?_;refine f7 zG (c8 (fun _ => bR7 (j5 2) 1 [T3, T3])) ?_;refine f7 zG (c8 (fun _ => P6 1)) ?_;refine f7 zG (c8 (fun _ => F8 1)) ?_;refine f7 zG (c8 (fun _ => ah1 1 (vaM 1) (nuM 1))) ?_;refine f7 zG (c8 (fun _ => bq1 (pcM (j5 2) 1 [T3, T3]) (prM 1 (vaM 1) (nuM 1)))) ?_;refine f7 zG (by3 SS) ?_;refine f7 zG (c8 (fun _ => bR8 x [.mk (pnM 2) (nuM 5), .mk (pcM (j5 2) 1 [T3, T3]) (prM 1 (vaM 1) (nuM 1))])) ?_;refine f7 zG (c8 (fun _ => L3 (bV3 x) 9 (cj0 (by omega) hxr))) ?_;refine aq3 ?_;refine Y37 ?_;refine f7 zG (c8 (fun _ => (Q9 x).moreG ac6)) ?_;refine f7 zG (c8 (fun _ => L3 (am7 x) 30 (ca8 (by omega) hxr))) ?_;refine xQ ?_
  refine yO ?_;refine yM ?_;refine f7 zG (N9 SS) ?_;refine xL ?_;refine f7 zG (c8 (fun _ => aN4 (j5 11) 0 x)) ?_;refine f7 zG (c8 (fun _ => L3 (S9 (j5 11) 0 x) 5 (cl9 (by decide) (by omega) hxr))) ?_;refine aq3 ?_;refine yM ?_;refine f7 zG (N9 SS) ?_;refine f7 zG (c8 (fun _ => aT1)) ?_;refine f7 zG (N9 SS) ?_;refine f7 zG (c8 (fun _ => bR7 (j5 2) 0 [])) ?_;refine f7 zG (by3 SS) ?_;refine f7 zG (c8 (fun _ => bR7 (j5 2) 1 [T3, pcM (j5 2) 0 []])) ?_;refine xL ?_;refine f7 zG (c8 (fun _ => bo1 (pcM (j5 2) 1 [T3, pcM (j5 2) 0 []]) x (by decide) ⟨by omega, hxr⟩)) ?_;refine aq3 ?_;refine yM ?_;refine f7 zG (c8 (fun _ => ch4 2)) ?_;refine xL ?_;refine f7 zG (c8 (fun _ => bo1 (pnM 2) x (by decide) ⟨by omega, hxr⟩)) ?_;refine aq3 ?_;refine Y35 ?_
  refine xM ?_;refine xP ?_;refine xL ?_;refine f7 zG (c8 (fun _ => bo1 (.mk (IntKind.i64.wrap ((i0 : Int) - 2)) i0 Z32 []) x (by simp [l9, u5]) ⟨by omega, hxr⟩)) ?_;refine aq3 ?_;refine Y42 ?_;refine Cq ?_ ?_
  ·intro h1;exfalso
   simp at h1
  ·intro h1
   refine Y87 ?_;refine Y43 ?_;refine Tri.block (Tri.loopW (σ := Nat) (fun i => ⟨[(3, .ptr 3 [] 32), (1, .pu (.sl 0 32 (l8 0 L15))), (69, .pu (.sl 0 32 (l8 0 L15))), (70, iv .i64 (l8 0 L15).length), (71, iv .i64 i0), (148, .pu (.sl 0 32 (l8 0 L15))), (149, iv .i64 (l8 0 L15).length), (150, iv .i64 i)], [(3, .var 32 (.pu (tmc 0 x)))]⟩) (fun i => 15 - i) 0 ?_ ?_ (fun i => ?_))
   ·exact zW
   ·exact zW
   refine Y41 ?_;refine Cq ?_ ?_
   ·intro h2
    have hj : i < 15 := by have := of_decide_eq_true h2; rw [a9] at this; simp [L15] at this; omega
    have hj' : i < L15.length := hj
    have hget2 := q7 (lo := 0) hj'
    have hy := bR9 _ (List.getElem_mem hj')
    generalize L15[i] = y at hget2 hy
    obtain ⟨hyz, hyr⟩ := hy
    refine Y86 ?_;refine Xq hget2 ?_;refine yL ?_;refine aC5 ?_;refine Y22 ?_;refine Dq (aq8 x y) ?_;refine Dq (L3 (apM x y) 12 (bZ5 (by omega) hxr hyr)) ?_;refine yQ ?_;refine ay2 ?_;refine f7 zG (c8 (fun _ => ah1 2 x y)) ?_;refine f7 zG (c8 (fun _ => L3 (prM 2 x y) 6 (ci4 (by decide) (by omega) hxr hyr))) ?_;refine aq3 ?_;refine yM ?_;refine f7 zG (N9 SS) ?_;refine xL ?_;refine xL ?_;refine f7 zG (by3 SS) ?_;refine f7 zG (c8 (fun _ => bp9 (j5 3) 0 [x, y])) ?_;refine f7 zG (c8 (fun _ => L3 (am9 (j5 3) 0 [x, y]) 6 (ck7 (by omega) hxr hyr))) ?_;refine aq3 ?_;refine yM ?_;refine f7 zG (N9 SS) ?_
    refine xL ?_;refine f7 zG (c8 (fun _ => P6 0)) ?_;refine xL ?_;refine f7 zG (c8 (fun _ => aq8 (vaM 0) y)) ?_;refine xL ?_;refine f7 zG (by3 SS) ?_;refine f7 zG (c8 (fun _ => bZ9 (j5 11) [x, apM (vaM 0) y, y])) ?_;refine f7 zG (c8 (fun _ => L3 (aN8 (j5 11) [x, apM (vaM 0) y, y]) 20 (cj5 (by omega) (by omega) hxr hyr))) ?_;refine aq3 ?_;refine Y42 ?_;refine Cq ?_ ?_
    ·intro h3;exfalso
     simp at h3
    ·intro h3
     refine Y66 ?_
     refine ⟨i + 1, by omega, i9 ?_ ?_⟩
     ·exact zE
     ·exact zH
   ·intro h2
    refine Tri.exit ?_;refine Y33 ?_
    refine ⟨i0 + 1, by omega, i9 ?_ ?_⟩
    ·exact zE
    ·exact zH
 ·intro h0
  refine Tri.exit ?_;refine yR ?_;refine yZ ?_;refine Y43 ?_;refine Tri.block (Tri.loopW (σ := Nat) (fun i => ⟨[(189, .pu (.sl 0 3 (ac4 La8))), (190, iv .i64 (ac4 La8).length), (191, iv .i64 i)], []⟩) (fun i => 8 - i) 0 ?_ ?_ (fun i => ?_))
  ·exact zW
  ·exact zW
  refine Y41 ?_;refine Cq ?_ ?_
  ·intro h4
   have hi : i < La8.length := by have := of_decide_eq_true h4; simpa [ac4] using this
   have hget := aE2 hi
   have ha := cm7 _ (List.getElem_mem hi)
   generalize La8[i] = a at hget ha
   have hi8 : i < 8 := hi
   generalize i = i0 at *
   refine Y86 ?_;refine Xq hget ?_;refine yL ?_;refine Y8 ?_;refine yR ?_;refine yZ ?_;refine Y43 ?_;refine Tri.block (Tri.loopW (σ := Nat) (fun i => ⟨[(7, iv .i64 a), (189, .pu (.sl 0 3 (ac4 La8))), (190, iv .i64 (ac4 La8).length), (191, iv .i64 i0), (195, .pu (.sl 0 3 (ac4 Lb5))), (196, iv .i64 (ac4 Lb5).length), (197, iv .i64 i)], []⟩) (fun i => 5 - i) 0 ?_ ?_ (fun i => ?_))
   ·exact zW
   ·exact zW
   refine Y41 ?_;refine Cq ?_ ?_
   ·intro h5
    have hi : i < Lb5.length := by have := of_decide_eq_true h5; simpa [ac4] using this
    have hget2 := aE2 hi
    have hb := cm6 _ (List.getElem_mem hi)
    generalize Lb5[i] = b at hget2 hb
    have hi5 : i < 5 := hi
    generalize i = i1 at *
    refine Y86 ?_;refine Xq hget2 ?_;refine yL ?_;refine Y8 ?_;refine Y10 ?_;refine Tri.block (Tri.loopW (σ := {o : Nat // 1 ≤ o ∧ o ≤ 6}) (fun i => ⟨[(7, iv .i64 a), (9, iv .i64 b), (10, iv .i64 i.1), (189, .pu (.sl 0 3 (ac4 La8))), (190, iv .i64 (ac4 La8).length), (191, iv .i64 i0), (195, .pu (.sl 0 3 (ac4 Lb5))), (196, iv .i64 (ac4 Lb5).length), (197, iv .i64 i1)], []⟩) (fun i => 6 - i.1) ⟨1, by decide⟩ ?_ ?_ (fun i => ?_))
    ·exact zW
    ·exact zW
    refine Y30 ?_;refine Cq ?_ ?_
    ·intro h6
     have ho : 1 ≤ i.1 + 1 ∧ i.1 + 1 ≤ 6 := by have h := of_decide_eq_true h6; have := i.2; omega
     have hoo : (0 : Int) ≤ (i.1 : Int) ∧ (i.1 : Int) ≤ 10 := by have := i.2; omega
     refine Y20 ?_;refine Y17 ?_;refine Dq (F8 a) ?_;refine yM ?_;refine Dq (F8 b) ?_;refine Dq (ah1 i.1 (nuM a) (nuM b)) ?_;refine Dq (L3 (prM i.1 (nuM a) (nuM b)) 1 (ci4 hoo (by simp [nuM, a8, d7, f6]) (bm9 (by omega)).2 (bm9 (by omega)).2)) ?_;refine Y98 ?_;refine Cq ?_ ?_
     ·intro h7;exfalso
      simp at h7
     ·intro h7
      refine Y99 ?_
      refine ⟨⟨i.1 + 1, ho⟩, by show 6 - (i.1 + 1) < 6 - i.1; have := i.2; omega, i9 ?_ ?_⟩
      ·exact zE
      ·exact zH
    ·intro h6
     refine Tri.exit ?_;refine Y33 ?_
     refine ⟨i1 + 1, by omega, i9 ?_ ?_⟩
     ·exact zE
     ·exact zH
   ·intro h5
    refine Tri.exit ?_;refine Y33 ?_
    refine ⟨i0 + 1, by omega, i9 ?_ ?_⟩
    ·exact zE
    ·exact zH
  ·intro h4
   refine Tri.exit ?_;refine yR ?_;refine Y34 ?_;refine Tri.block (Tri.loopW (σ := Nat) (fun i => ⟨[(215, iv .i64 i)], []⟩) (fun i => 16 - i) 0 ?_ ?_ (fun i => ?_))
   ·exact zW
   ·exact zW
   refine Y41 ?_;refine Cq ?_ ?_
   ·intro h8
    have hn : i < 16 := by have := of_decide_eq_true h8; omega
    generalize i = n at *
    have hb1 := bit1 n hn
    have hb3 := bit3 n hn
    have hb8 := bit8 n hn
    have hm2 : n % 2 < 2 := Nat.mod_lt _ (by decide)
    have hm4 : n / 2 % 4 < twoL.length := Nat.mod_lt _ (by decide)
    have hget := q7 (lo := 0) hm4
    have htw := bS6 _ (List.getElem_mem hm4)
    generalize twoL[n / 2 % 4] = two at hget htw
    obtain ⟨htz, htr⟩ := htw
    obtain ⟨one, hone⟩ : ∃ one, ([l4 (j5 11), l4 (j5 12)] : List Pu)[n % 2]? = some (l4 one) := by
     rcases Nat.mod_two_eq_zero_or_one n with h | h <;> rw [h]
     ·exact ⟨_, rfl⟩
     ·exact ⟨_, rfl⟩
    refine Y20 ?_;refine Y95 ?_;refine yR ?_;refine yG ?_;refine yG ?_;refine yZ ?_;refine yM ?_;refine yI ?_;rw [hb1];refine b5 (aZ4 SS (h0 := by omega) (hp := hone)) ?_;refine yL ?_;refine Dq aN2 ?_;refine Dq (P6 1) ?_;refine Dq aF2 ?_;refine yG ?_;refine Dq aN2 ?_;refine Dq (aN4 (j5 11) 0 X0) ?_;refine yZ ?_;refine yM ?_;refine b5 (D4 SS (h := shr1 _ _)) ?_;refine yI ?_;rw [hb3];refine b5 (aZ4 SS (h0 := by omega) (hp := hget)) ?_;refine yL ?_;refine b9 SS 12 ?_;refine b9 SS 13 ?_;refine yS ?_;refine yS ?_;refine A5 [12, 13] ?_;refine yR ?_;refine yG ?_;refine yL ?_;refine yG ?_;refine yM ?_;refine b5 (D4 SS (h := shr3 _ _)) ?_;refine Dq (F8 4) ?_
    refine Dq (aN4 (j5 11) ((n : Int).fdiv (2 ^ 3)) (nuM 4)) ?_;refine yM ?_;refine Dq (F8 n) ?_;refine Dq (ah1 1 (S9 (j5 11) ((n : Int).fdiv (2 ^ 3)) (nuM 4)) (nuM n)) ?_;refine Dq (P6 0) ?_;refine Dq (F8 3) ?_;refine Dq (ah1 3 (vaM 0) (nuM 3)) ?_;refine yL ?_;refine yZ ?_;refine Dq (bZ9 one [prM 1 (S9 (j5 11) ((n : Int).fdiv (2 ^ 3)) (nuM 4)) (nuM n), prM 3 (vaM 0) (nuM 3), two]) ?_;refine Dq (P6 0) ?_;refine Dq (F8 100) ?_;refine Dq (ah1 1 (vaM 0) (nuM 100)) ?_;refine Dq aF2 ?_;refine Dq aN2 ?_;refine yZ ?_
    refine Dq (bZ9 (j5 11) [aN8 one [prM 1 (S9 (j5 11) ((n : Int).fdiv (2 ^ 3)) (nuM 4)) (nuM n), prM 3 (vaM 0) (nuM 3), two], prM 1 (vaM 0) (nuM 100), Q0, X0]) ?_;refine b9 SS 14 ?_;refine yS ?_;refine A5 [14] ?_
    obtain ⟨tt, htt⟩ : ∃ tt, Tm.mk 12 0 (j5 11) [aN8 one [prM 1 (S9 (j5 11) ((n : Int).fdiv (2 ^ 3)) (nuM 4)) (nuM n), prM 3 (vaM 0) (nuM 3), two], prM 1 (vaM 0) (nuM 100), Q0, X0] [] = tt := ⟨_, rfl⟩
    have hbg : Gd tt := by rw [← htt]; exact cl0 hb8 (by omega) htz htr
    rw [htt];refine yR ?_;refine Y34 ?_;refine Tri.block (Tri.loopW (σ := Nat) (fun i => ⟨[(13, .ptr 13 [] 32), (14, .ptr 14 [] 32), (215, iv .i64 n), (260, iv .i64 i)], [(13, .var 32 (.pu (tmc 0 two))), (14, .var 32 (.pu (tmc 0 tt)))]⟩) (fun i => 24 - i) 0 ?_ ?_ (fun i => ?_))
    ·exact zW
    ·exact zW
    refine Y41 ?_;refine Cq ?_ ?_
    ·intro h9
     have hi24 : i < 24 := by have := of_decide_eq_true h9; omega
     refine Y20 ?_;refine Y95 ?_;refine Y51 ?_;refine Y82 ?_;refine Dq ((Q9 two).moreG ac6) ?_;refine yM ?_;refine Dq (aU9 awA awB [] tt (am7 two) i ci7 hbg (ca8 (by omega) htr)) ?_;refine yQ ?_;refine Y42 ?_;refine Cq ?_ ?_
     ·intro h10;exfalso
      simp at h10
     ·intro h10
      refine Y66 ?_
      refine ⟨i + 1, by omega, i9 ?_ ?_⟩
      ·exact zE
      ·exact zH
    ·intro h9
     refine Tri.exit ?_;refine Y4 ?_;refine Dq (L3 tt 30 hbg) ?_;refine Y98 ?_;refine Cq ?_ ?_
     ·intro h11;exfalso
      simp at h11
     ·intro h11
      refine Y66 ?_
      refine ⟨n + 1, by omega, i9 ?_ ?_⟩
      ·exact zE
      ·exact zH
   ·intro h8
    refine Tri.exit ?_;refine yR ?_;refine yG ?_;refine Dq (aq7 (j5 24)) ?_;refine Dq (F8 5) ?_;refine Dq (aq8 (deM (j5 24)) (nuM 5)) ?_;refine b9 SS 16 ?_;refine yS ?_;refine b8 [16] ?_;refine yR ?_;refine yZ ?_;refine Y43 ?_;refine Tri.block (Tri.loopW (σ := Nat) (fun i => ⟨[(16, .ptr 16 [] 32), (279, .pu (.sl 0 3 (ac4 Lc11))), (280, iv .i64 (ac4 Lc11).length), (281, iv .i64 i)], [(16, .var 32 (.pu (tmc 0 ad0)))]⟩) (fun i => 11 - i) 0 ?_ ?_ (fun i => ?_))
    ·exact zW
    ·exact zW
    refine Y41 ?_;refine Cq ?_ ?_
    ·intro h12
     have hi : i < Lc11.length := by have := of_decide_eq_true h12; simpa [ac4] using this
     have hget := aE2 hi
     generalize Lc11[i] = a at hget
     have hi11 : i < 11 := hi
     refine Y86 ?_;refine Xq hget ?_;refine yL ?_;refine Y8 ?_;refine Y65 ?_;refine Dq (L3 ad0 a aj8) ?_;refine yQ ?_;refine yM ?_;refine f7 zG (N9 SS) ?_;refine f7 zG (c8 (fun _ => aq7 (j5 24))) ?_;refine xM ?_;refine f7 zG (c8 (fun _ => L3 (deM (j5 24)) a (bE5 _))) ?_;refine xQ ?_;refine Y92 ?_;refine Cq ?_ ?_
     ·intro h13;exfalso
      simp at h13
     ·intro h13
      refine Y66 ?_
      refine ⟨i + 1, by omega, i9 ?_ ?_⟩
      ·exact zE
      ·exact zH
    ·intro h12
     refine Tri.exit ?_;refine yR ?_;refine Dq bx7 ?_;refine b9 SS 19 ?_;refine yS ?_;refine b8 [19] ?_;refine Y14 ?_;refine bT6 (bQ5 (worldT.map ktP) (by decide)) ?_;refine Y7 ?_;refine b5 (g9 SS (h0 := by omega) (hp := (rfl : (worldT.map ktP)[1]? = some (ktP (j5 22, laM (laM (prM 1 (vaM 1) (vaM 0)))))))) ?_;refine yL ?_;refine yZ ?_;refine cd9 ?_ ?_
     ·decide
     refine yP ?_;refine b9 SS 20 ?_;refine yS ?_;refine A5 [20] ?_;refine yR ?_;refine yP ?_;refine Dq (P6 0) ?_;refine yP ?_;refine yP ?_;refine Dq (cm3 0) ?_;refine yP ?_;refine Y81 ?_;refine b9 SS 21 ?_;refine yS ?_;refine b8 [21] ?_;refine yR ?_;refine yP ?_;refine yG ?_;refine yP ?_;refine Dq (aq7 (j5 2)) ?_;refine yP ?_;refine Dq (aq7 (j5 1)) ?_;refine yZ ?_;refine Dq (bp9 (j5 3) 0 [deM (j5 2), deM (j5 1)]) ?_;refine yP ?_;refine yP ?_;refine yG ?_;refine Dq (F8 1) ?_;refine yZ ?_;refine Dq (bA5 (nuM 1)) ?_;refine Dq (bp9 (j5 3) 0 [nuM 1, nuM 1, nuM 1, nuM 1]) ?_;refine Dq (aO2 (am9 (j5 3) 0 [nuM 1, nuM 1, nuM 1, nuM 1])) ?_;refine yP ?_;refine yP ?_;refine yP ?_
     refine Dq (aq7 (j5 3)) ?_;refine yG ?_;refine Dq (P6 0) ?_;refine Dq (P6 0) ?_;refine yZ ?_;refine Dq (bp9 (j5 3) 0 [vaM 0, vaM 0]) ?_;refine Dq (aq8 (deM (j5 3)) (am9 (j5 3) 0 [vaM 0, vaM 0])) ?_;refine Dq (aO2 (apM (deM (j5 3)) (am9 (j5 3) 0 [vaM 0, vaM 0]))) ?_;refine yP ?_;refine Y81 ?_;refine b9 SS 22 ?_;refine yS ?_;refine A5 [22] ?_;refine Y10 ?_
     refine Tri.block (Tri.loopW (σ := {n : Nat // 1 ≤ n ∧ n ≤ 4}) (fun i => ⟨[(16, .ptr 16 [] 32), (20, .ptr 20 [] 26), (21, .ptr 21 [] 26), (22, .ptr 22 [] 26), (23, iv .i64 i.1)], [(16, .var 32 (.pu (tmc 0 ad0))), (20, .var 26 (.pu (wdP awA awB an9))), (21, .var 26 (.pu (wdP awA awB openW))), (22, .var 26 (.pu (wdP awA awB aA5)))]⟩) (fun i => 4 - i.1) ⟨1, by decide⟩ ?_ ?_ (fun i => ?_))
     ·exact zW
     ·exact zW
     refine Y30 ?_;refine Cq ?_ ?_
     ·intro h14
      obtain ⟨n, hn0⟩ := i
      have hn3 : n < 4 := by have := of_decide_eq_true h14; dsimp only at this; omega
      have hn : 1 ≤ n + 1 ∧ n + 1 ≤ 4 := by omega
      have hw8 : IntKind.u8.wrap (n : Int) = n := by rcases (show n = 1 ∨ n = 2 ∨ n = 3 by omega) with rfl | rfl | rfl <;> decide
      dsimp only
      refine Y86 ?_;refine yZ ?_;refine Y43 ?_;refine Tri.block (Tri.loopW (σ := Nat) (fun i => ⟨[(16, .ptr 16 [] 32), (20, .ptr 20 [] 26), (21, .ptr 21 [] 26), (22, .ptr 22 [] 26), (23, iv .i64 n), (350, .pu (.sl 0 3 (ac4 Ld4))), (351, iv .i64 (ac4 Ld4).length), (352, iv .i64 i)], [(16, .var 32 (.pu (tmc 0 ad0))), (20, .var 26 (.pu (wdP awA awB an9))), (21, .var 26 (.pu (wdP awA awB openW))), (22, .var 26 (.pu (wdP awA awB aA5)))]⟩) (fun i => 4 - i) 0 ?_ ?_ (fun i => ?_))
      ·exact zW
      ·exact zW
      refine Y41 ?_;refine Cq ?_ ?_
      ·intro h15
       have hi : i < Ld4.length := by have := of_decide_eq_true h15; simpa [ac4] using this
       have hget := aE2 hi
       generalize Ld4[i] = a at hget
       have hi4 : i < 4 := hi
       refine Y86 ?_;refine Xq hget ?_;refine yL ?_;refine Y8 ?_;refine Y65 ?_;refine b5 (av6 SS (hu := aM2 _)) ?_;rw [hw8];refine yP ?_;refine Dq (aq7 (j5 n)) ?_;refine Dq (F8 1) ?_;refine yM ?_;refine Dq (aU9 awA awB aA5 (deM (j5 n)) (nuM 1) a aW3 (bE5 _) (bm9 (by decide))) ?_;refine yQ ?_;refine Y37 ?_;refine xP ?_;refine f7 zG (c8 (fun _ => aq7 (j5 3))) ?_;refine xM ?_;refine f7 zG (c8 (fun _ => F8 n)) ?_;refine f7 zG (c8 (fun _ => aq8 (deM (j5 3)) (nuM n))) ?_;refine f7 zG (c8 (fun _ => F8 1)) ?_;refine Y19 ?_
       refine f7 zG (c8 (fun _ => aU9 awA awB aA5 (apM (deM (j5 3)) (nuM n)) (nuM 1) _ aW3 (bZ5 (by simp [deM, nuM, a8, d7, f6]) (bE5 _).2 (bm9 (by omega)).2) (bm9 (by decide)))) ?_;refine aq3 ?_;refine Y37 ?_;refine xM ?_;refine f7 zG (av6 SS (hu := (aM2 n).trans (by rw [hw8]))) ?_;refine xP ?_;refine f7 zG (c8 (fun _ => aq7 (j5 n))) ?_;refine f7 zG (c8 (fun _ => aT9 awA awB aA5 (deM (j5 n)) 40 aW3 (bE5 _))) ?_;refine aq3 ?_;refine Y37 ?_;refine xP ?_;refine f7 zG (c8 (fun _ => aq7 (j5 3))) ?_;refine xM ?_;refine f7 zG (c8 (fun _ => F8 n)) ?_;refine f7 zG (c8 (fun _ => aq8 (deM (j5 3)) (nuM n))) ?_
       refine f7 zG (c8 (fun _ => aT9 awA awB aA5 (apM (deM (j5 3)) (nuM n)) 24 aW3 (bZ5 (by simp [deM, nuM, a8, d7, f6]) (bE5 _).2 (bm9 (by omega)).2))) ?_;refine aq3 ?_;refine Y42 ?_;refine Cq ?_ ?_
       ·intro h16;exfalso
        simp at h16
       ·intro h16
        refine Y66 ?_
        refine ⟨i + 1, by omega, i9 ?_ ?_⟩
        ·exact zE
        ·exact zH
      ·intro h15
       refine Tri.exit ?_;refine Y40 ?_
       refine ⟨⟨n + 1, hn⟩, by show 4 - (n + 1) < 4 - n; omega, i9 ?_ ?_⟩
       ·exact zE
       ·exact zH
     ·intro h14
      refine Tri.exit ?_;refine yR ?_;refine b9 SS 26 ?_;refine b8 [26] ?_;refine yR ?_;refine Y34 ?_;refine Tri.block (Tri.loopW (σ := {n : Nat // n ≤ 42}) (fun i => ⟨[(16, .ptr 16 [] 32), (20, .ptr 20 [] 26), (21, .ptr 21 [] 26), (26, .ptr 26 [] 26), (398, iv .i64 i.1)], [(16, .var 32 (.pu (tmc 0 ad0))), (20, .var 26 (.pu (wdP awA awB an9))), (21, .var 26 (.pu (wdP awA awB openW))), (26, .var 26 (.agg 26 [.nilc, .nilc, .ow 0 116 ((at0 i.1).map ktP)]))]⟩) (fun i => 42 - i.1) ⟨0, by decide⟩ ?_ ?_ (fun i => ?_))
      ·exact zW
      ·exact zW
      refine Y41 ?_;refine Cq ?_ ?_
      ·intro h17
       obtain ⟨n, hn0⟩ := i
       have hn42 : n < 42 := by have := of_decide_eq_true h17; dsimp only at this; omega
       have hn : n + 1 ≤ 42 := by omega
       have hw8 : IntKind.u8.wrap (n : Int) = n := by have := (show ∀ m : Nat, m < 42 → IntKind.u8.wrap (m : Int) = m by decide) n hn42; exact this
       have hmany := bB9 n
       have hml : (at0 n).length = n := by simp [at0]
       dsimp only
       refine Y20 ?_;refine Y95 ?_;refine Y60 ?_;refine b5 (av6 SS (hu := aM2 _)) ?_;rw [hw8];refine yP ?_;refine yM ?_;refine Dq (F8 n) ?_;refine yP ?_;refine yZ ?_;refine I2 26 [2] (ys := [ktP (j5 n, nuM n)]) ?_ ?_
       ·simp [hml]; omega
       rw [hmany];refine Y94 ?_;refine Y11 ?_;refine ay2 ?_;refine f7 zG (c8 (fun _ => au5 awA awB (at0 (n + 1)) ad0 (cf1 hn) aj8)) ?_;refine xQ ?_;refine Y97 ?_;refine Cq ?_ ?_
       ·intro h18;exfalso
        simp at h18
       ·intro h18
        refine Y66 ?_
        refine ⟨⟨n + 1, hn⟩, by show 42 - (n + 1) < 42 - n; omega, i9 ?_ ?_⟩
        ·exact zE
        ·exact zH
      ·intro h17
       refine Tri.exit ?_;refine Y22 ?_;refine Dq (au5 awA awB an9 ad0 bq8 aj8) ?_;refine ay2 ?_;refine xL ?_;refine f7 zG (c8 (fun _ => aU9 awA awB an9 ad0 ad0 9 bq8 aj8 aj8)) ?_;refine yN ?_;refine ay2 ?_;refine f7 zG (c8 (fun _ => au5 awA awB openW ad0 bm8 aj8)) ?_;refine yN ?_;refine Y12 ?_;refine f7 zG (ah6 SS (ps := openW.map ktP) (l := 1) (by decide)) ?_;refine xP ?_;refine xL ?_;refine f7 zG (c8 (fun _ => au5 awA awB (openW.drop 1) ad0 bU9 aj8)) ?_;refine yN ?_;refine ay2 ?_;refine f7 zG (c8 (fun _ => aT9 awA awB openW ad0 1 bm8 aj8)) ?_;refine yN ?_;refine yM ?_;refine f7 zG (c8 (fun _ => bR0)) ?_;refine yN ?_;refine av1 ?_
       refine tQ ?_;refine Rq ?_;exact m0 rfl
end Go.Proofs.YtkcgkignhpepkaaGreatDoor
