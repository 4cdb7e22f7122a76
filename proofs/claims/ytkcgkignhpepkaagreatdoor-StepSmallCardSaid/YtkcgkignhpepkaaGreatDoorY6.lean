/- Part 6 of the proof: lemmas on walks and the walks of the functions, in their order. -/
import Derived.Test.YtkcgkignhpepkaaGreatDoorY5
set_option linter.unusedSimpArgs false
set_option linter.unusedVariables false
set_option linter.unusedSectionVars false
set_option linter.constructorNameAsVariable false
/- The reference: what fits, and the place of work. -/
namespace Go.Proofs.YtkcgkignhpepkaaGreatDoor
open Go Hs
section
variable {G : List (Nat × TypeId × Pu)}
def U3 (v : Tm) : List Cs → Nat → Option (Nat × List Tm)
 | [], _ => none
 | .mk q _ :: cs, i => if (p5 q v).2 then some (i, (p5 q v).1) else U3 v cs (i + 1)
abbrev cj9 (x : Option (Nat × List Tm)) : PV := .tup [iv .i64 (match x with | some (i, _) => (i : Int) | none => -1), .pu (.sl 0 32 (l8 0 (match x with | some (_, l) => l | none => [])))]
theorem bv3 (v : Tm) : ∀ {cs : List Cs} {i o : Nat} (hi : i < cs.length), (∀ j (hj : j < cs.length), j < i → (p5 (csP cs[j]) v).2 = false) → (p5 (csP cs[i]) v).2 = true → U3 v cs o = some (o + i, (p5 (csP cs[i]) v).1)
 | .mk q b :: cs, 0, o, _, _, h => by simp only [List.getElem_cons_zero, csP] at h ⊢; simp [U3, h]
 | .mk q b :: cs, i + 1, o, hi, hn, h => by
  have h0 := hn 0 (by simp) (by omega)
  simp only [List.getElem_cons_zero, csP] at h0
  simp only [List.getElem_cons_succ] at h ⊢
  rw [show o + (i + 1) = o + 1 + i by omega]
  simp only [U3, h0, Bool.false_eq_true, if_false]
  exact bv3 v (by simpa using hi) (fun j hj hlt => by have := hn (j + 1) (by simpa using hj) (by omega); rwa [List.getElem_cons_succ] at this) h
theorem aR9 (v : Tm) : ∀ {cs : List Cs} {o : Nat}, (∀ j (hj : j < cs.length), (p5 (csP cs[j]) v).2 = false) → U3 v cs o = none
 | [], _, _ => rfl
 | .mk q b :: cs, o, hn => by
  have h0 := hn 0 (by simp)
  simp only [List.getElem_cons_zero, csP] at h0
  simp only [U3, h0, Bool.false_eq_true, if_false]
  exact aR9 v fun j hj => by have := hn (j + 1) (by simpa using hj); rwa [List.getElem_cons_succ] at this
theorem aH9 (k n : Int) (r : List Int) (v : Tm) (ks : List Tm) (cs : List Cs) (hN : a8 (.mk k n r (v :: ks) cs) < 2^30) : FCall Tryz.prog G 91 [.pu (tmc 0 (.mk k n r (v :: ks) cs))] (cj9 (U3 v cs 0)) := by
 have hsz : 1 + d7 (v :: ks) + f6 cs < 2^30 := by simpa only [a8] using hN
 have hlenc := m5 cs
 have hv : a8 v ≤ d7 (v :: ks) := by simp only [d7]; omega
 refine Fq 31 Tryz.func91 ?_;intro w0 M ρ0 D0
 refine Y77 ?_;refine yB ?_;refine b8 [1] ?_;refine Y10 ?_;refine Tri.block (Tri.loopW (σ := {i : Nat // ∀ j (hj : j < cs.length), j < i → (p5 (csP cs[j]) v).2 = false}) (fun i => ⟨[(1, .ptr 1 [] 32), (4, iv .i64 i.1)], [(1, .var 32 (.pu (tmc 0 (.mk k n r (v :: ks) cs))))]⟩) (fun i => cs.length - i.1) ⟨0, by intro j hj h; omega⟩ ?_ ?_ (fun i => ?_))
 ·exact zW
 ·exact zW
 refine Y93 ?_;refine Cq ?_ ?_
 ·intro h0
  have hi : i.1 < cs.length := by rw [j3] at h0; simpa using h0
  have hget := G2 (lo := 0) hi
  rw [aX6] at hget
  have hcz := B0 (List.getElem_mem hi)
  have hpz : l9 (csP cs[i.1]) ≤ p9 cs[i.1] := by generalize cs[i.1] = c; cases c; simp only [csP, p9]; omega
  refine Y90 ?_;refine Xq hget ?_;refine Y5 ?_;refine Y7 ?_;refine b5 (g9 SS (h0 := by omega) (hp := (rfl : (l8 0 (v :: ks))[0]? = some (tmc 0 v)))) ?_;refine yL ?_;refine Dq (bs7 _ (csP cs[i.1]) (Nat.le_refl _) v (by omega)) ?_;refine Y28 ?_;refine yA ?_;refine av1 ?_;refine Y1 ?_;refine Y0 ?_;refine Cq ?_ ?_
  ·intro h1
   have hf : U3 v cs 0 = some (0 + i.1, (p5 (csP cs[i.1]) v).1) := bv3 v hi i.2 h1
   rw [Nat.zero_add] at hf
   refine ay3 ?_;rw [hf];exact Tri.ret ⟨.inr rfl, q8 rfl b4 (VImp.refl _) b4 (VImp.refl _)⟩
  ·intro h1
   have hnext : ∀ j (hj : j < cs.length), j < i.1 + 1 → (p5 (csP cs[j]) v).2 = false := fun j hj h => by
    rcases Nat.lt_or_ge j i.1 with h' | h'
    ·exact i.2 j hj h'
    ·obtain rfl : j = i.1 := by omega
     exact h1
   refine Y99 ?_
   refine ⟨⟨i.1 + 1, hnext⟩, by show cs.length - (i.1 + 1) < cs.length - i.1; omega, i9 ?_ ?_⟩
   ·exact zE
   ·exact zH
 ·intro h0
  have hf : U3 v cs 0 = none := aR9 v fun j hj => i.2 j hj (by rw [j3] at h0; simp at h0; omega)
  refine Tri.exit ?_;refine aq5 ?_;rw [hf];exact Tri.ret ⟨.inr rfl, q8 rfl b4 (VImp.refl _) b4 (ToPu.imp (by repeat constructor))⟩
def Z9 (k : Int) (ks : List Tm) : Option Nat := (ks.take (j9 k ks.length)).findIdx? fun x => !D3 x
theorem aA0 (many : Nat) : ∀ (ks : List Tm) (i : Nat), N2 many i ks = match (ks.take (many - i)).findIdx? (fun x => !D3 x) with
  | some j => (i + j) :: (match ks[j]? with | some x => c9 x | none => [])
  | none => []
 | [], i => by simp [N2]
 | t :: ts, i => by
  simp only [N2]
  split
  ·rename_i h
   obtain ⟨d, hd⟩ : ∃ d, many - i = d + 1 := ⟨many - i - 1, by omega⟩
   have ih := aA0 many ts (i + 1)
   rw [show many - (i + 1) = d by omega] at ih
   rw [hd, List.take_succ_cons, List.findIdx?_cons]
   split
   ·rename_i hv
    simp only [hv, Bool.not_true, Bool.false_eq_true, if_false]
    rw [ih]
    cases (ts.take d).findIdx? (fun x => !D3 x) with
    | none => rfl
    | some j => simp only [Option.map_some, List.getElem?_cons_succ]; congr 1; omega
   ·rename_i hv
    simp [hv]
  ·rename_i h
   rw [show many - i = 0 by omega]; rfl
theorem ae6 (k n : Int) (r : List Int) (ks : List Tm) (cs : List Cs) : c9 (.mk k n r ks cs) = match Z9 k ks with
  | some j => j :: (match ks[j]? with | some x => c9 x | none => [])
  | none => [] := by
 simp only [c9]
 rw [aA0]
 simp only [Nat.sub_zero, Nat.zero_add]
 rfl
theorem ad4 {k : Int} {ks : List Tm} {j : Nat} (h : Z9 k ks = some j) : j < j9 k ks.length ∧ ∃ x, ks[j]? = some x ∧ D3 x = false := by
 unfold Z9 at h
 obtain ⟨h1, h2, _⟩ := List.findIdx?_eq_some_iff_getElem.1 h
 rw [List.length_take] at h1
 refine ⟨by omega, ks[j]'(by omega), List.getElem?_eq_getElem _, ?_⟩
 simpa using h2
theorem bA0 (k n : Int) (r : List Int) (ks : List Tm) (cs : List Cs) (hm : j9 k ks.length ≤ ks.length) (hN : a8 (.mk k n r ks cs) < 2^40) : FCall Tryz.prog G 149 [.pu (tmc 0 (.mk k n r ks cs))] (iv .i64 (match Z9 k ks with | some j => (j : Int) | none => -1)) := by
 have hsz : 1 + d7 ks + f6 cs < 2^40 := by simpa only [a8] using hN
 have hlen := f9 ks
 refine Fq 32 Tryz.func149 ?_;intro w0 M ρ0 D0
 refine Y85 ?_;refine Y21 ?_;refine Y13 ?_;refine Y0 ?_;refine Tri.cutT ⟨[(1, .ptr 1 [] 32), (3, iv .i64 (j9 k ks.length : Nat))], [(1, .var 32 (.pu (tmc 0 (.mk k n r ks cs))))]⟩ ?_ ?_
 ·skip
  refine Y84 ?_;refine Y18 ?_;refine Tri.cutT ⟨[(1, .ptr 1 [] 32), (6, iv .i64 k), (3, iv .i64 0), (7, bv (k == 4 || k == 8 || k == 10))], [(1, .var 32 (.pu (tmc 0 (.mk k n r ks cs))))]⟩ ?_ ?_
  ·skip
   refine tQ ?_;refine Cq ?_ ?_
   ·intro h0
    refine Tri.skip ?_;refine i9 ?_ ?_
    ·exact zk0
    ·exact zk1
   ·intro h0
    refine Y18 ?_;refine Cq ?_ ?_
    ·intro h1
     refine Tri.skip ?_;refine i9 ?_ ?_
     ·exact zk0
     ·exact zk1
    ·intro h1
     refine Y9 ?_;refine Y8 ?_;refine i9 ?_ ?_
     ·exact zk0
     ·exact zk1
  ·skip
   refine tQ ?_;refine Cq ?_ ?_
   ·intro h2
    refine Y14 ?_;refine yC ?_;refine Y8 ?_;refine i9 ?_ ?_
    ·repeat (first | exact SubE.nil | refine SubE.cons rfl (by first | rfl | (rw [b7 (by omega) (by omega)]; rfl) | (first | (rw [a9]; simp only [Bool.or_eq_true, beq_iff_eq] at h2; simp only [j9]; rw [if_pos (by omega)]) | (simp only [Bool.or_eq_false_iff, Bool.or_eq_true, beq_iff_eq, beq_eq_false_iff_ne, ne_eq] at h2 h6; simp only [j9]; rw [if_neg (by omega), if_pos (by omega)]; rfl) | (simp only [Bool.or_eq_false_iff, beq_eq_false_iff_ne, ne_eq] at h2 h6; simp only [j9]; rw [if_neg (by omega), if_neg (by omega)]; rfl))) ?_)
    ·repeat (first | exact SubH.nil | refine SubH.cons rfl (by first | rfl | (rw [b7 (by omega) (by omega)]; rfl) | (first | (rw [a9]; simp only [Bool.or_eq_true, beq_iff_eq] at h2; simp only [j9]; rw [if_pos (by omega)]) | (simp only [Bool.or_eq_false_iff, Bool.or_eq_true, beq_iff_eq, beq_eq_false_iff_ne, ne_eq] at h2 h6; simp only [j9]; rw [if_neg (by omega), if_pos (by omega)]; rfl) | (simp only [Bool.or_eq_false_iff, beq_eq_false_iff_ne, ne_eq] at h2 h6; simp only [j9]; rw [if_neg (by omega), if_neg (by omega)]; rfl))) ?_)
   ·intro h2
    refine Y18 ?_;refine Tri.cutT ⟨[(1, .ptr 1 [] 32), (3, iv .i64 0), (14, bv (k == 5 || k == 9 || k == 11 || k == 12))], [(1, .var 32 (.pu (tmc 0 (.mk k n r ks cs))))]⟩ ?_ ?_
    ·skip
     refine tQ ?_;refine Cq ?_ ?_
     ·intro h3
      refine Tri.skip ?_;refine i9 ?_ ?_
      ·exact zk0
      ·exact zk1
     ·intro h3
      refine Y18 ?_;refine Cq ?_ ?_
      ·intro h4
       refine Tri.skip ?_;refine i9 ?_ ?_
       ·exact zk0
       ·exact zk1
      ·intro h4
       refine Y18 ?_;refine Cq ?_ ?_
       ·intro h5
        refine Tri.skip ?_;refine i9 ?_ ?_
        ·exact zk0
        ·exact zk1
       ·intro h5
        refine Y9 ?_;refine Y8 ?_;refine i9 ?_ ?_
        ·exact zk0
        ·exact zk1
    ·skip
     refine tQ ?_;refine Cq ?_ ?_
     ·intro h6
      refine Y21 ?_;refine i9 ?_ ?_
      ·repeat (first | exact SubE.nil | refine SubE.cons rfl (by first | rfl | (rw [b7 (by omega) (by omega)]; rfl) | (first | (rw [a9]; simp only [Bool.or_eq_true, beq_iff_eq] at h2; simp only [j9]; rw [if_pos (by omega)]) | (simp only [Bool.or_eq_false_iff, Bool.or_eq_true, beq_iff_eq, beq_eq_false_iff_ne, ne_eq] at h2 h6; simp only [j9]; rw [if_neg (by omega), if_pos (by omega)]; rfl) | (simp only [Bool.or_eq_false_iff, beq_eq_false_iff_ne, ne_eq] at h2 h6; simp only [j9]; rw [if_neg (by omega), if_neg (by omega)]; rfl))) ?_)
      ·repeat (first | exact SubH.nil | refine SubH.cons rfl (by first | rfl | (rw [b7 (by omega) (by omega)]; rfl) | (first | (rw [a9]; simp only [Bool.or_eq_true, beq_iff_eq] at h2; simp only [j9]; rw [if_pos (by omega)]) | (simp only [Bool.or_eq_false_iff, Bool.or_eq_true, beq_iff_eq, beq_eq_false_iff_ne, ne_eq] at h2 h6; simp only [j9]; rw [if_neg (by omega), if_pos (by omega)]; rfl) | (simp only [Bool.or_eq_false_iff, beq_eq_false_iff_ne, ne_eq] at h2 h6; simp only [j9]; rw [if_neg (by omega), if_neg (by omega)]; rfl))) ?_)
     ·intro h6
      refine Tri.skip ?_;refine i9 ?_ ?_
      ·repeat (first | exact SubE.nil | refine SubE.cons rfl (by first | rfl | (rw [b7 (by omega) (by omega)]; rfl) | (first | (rw [a9]; simp only [Bool.or_eq_true, beq_iff_eq] at h2; simp only [j9]; rw [if_pos (by omega)]) | (simp only [Bool.or_eq_false_iff, Bool.or_eq_true, beq_iff_eq, beq_eq_false_iff_ne, ne_eq] at h2 h6; simp only [j9]; rw [if_neg (by omega), if_pos (by omega)]; rfl) | (simp only [Bool.or_eq_false_iff, beq_eq_false_iff_ne, ne_eq] at h2 h6; simp only [j9]; rw [if_neg (by omega), if_neg (by omega)]; rfl))) ?_)
      ·repeat (first | exact SubH.nil | refine SubH.cons rfl (by first | rfl | (rw [b7 (by omega) (by omega)]; rfl) | (first | (rw [a9]; simp only [Bool.or_eq_true, beq_iff_eq] at h2; simp only [j9]; rw [if_pos (by omega)]) | (simp only [Bool.or_eq_false_iff, Bool.or_eq_true, beq_iff_eq, beq_eq_false_iff_ne, ne_eq] at h2 h6; simp only [j9]; rw [if_neg (by omega), if_pos (by omega)]; rfl) | (simp only [Bool.or_eq_false_iff, beq_eq_false_iff_ne, ne_eq] at h2 h6; simp only [j9]; rw [if_neg (by omega), if_neg (by omega)]; rfl))) ?_)
 ·skip
  refine Y10 ?_;refine Tri.block (Tri.loopW (σ := {i : Nat // ∀ j (hj : j < ks.length), j < i → D3 ks[j] = true}) (fun i => ⟨[(1, .ptr 1 [] 32), (3, iv .i64 (j9 k ks.length : Nat)), (4, iv .i64 i.1)], [(1, .var 32 (.pu (tmc 0 (.mk k n r ks cs))))]⟩) (fun i => j9 k ks.length - i.1) ⟨0, by intro j hj h; omega⟩ ?_ ?_ (fun i => ?_))
  ·exact zW
  ·exact zW
  refine Y62 ?_;refine Y0 ?_;refine Cq ?_ ?_
  ·intro h7
   have hi1 : i.1 < j9 k ks.length := by simpa using h7
   have hi : i.1 < ks.length := by omega
   have hts := o8 (List.getElem_mem hi)
   refine Y90 ?_;refine b5 (g9 SS (h0 := by omega) (hp := q7 hi)) ?_;refine yL ?_;refine Dq (ai0 _ ks[i.1] (Nat.le_refl _) (by omega)) ?_;refine Y98 ?_;refine Cq ?_ ?_
   ·intro h8
    have hw : Z9 k ks = some i.1 := by
     unfold Z9
     refine List.findIdx?_eq_some_iff_getElem.2 ⟨by rw [List.length_take]; omega, by simpa using h8, fun j hj => ?_⟩
     have := i.2 j (by omega) hj
     simp [this]
    refine Y88 ?_;refine Rq ?_;exact c7 (by rw [hw])
   ·intro h8
    have hnext : ∀ j (hj : j < ks.length), j < i.1 + 1 → D3 ks[j] = true := fun j hj h => by
     rcases Nat.lt_or_ge j i.1 with h' | h'
     ·exact i.2 j hj h'
     ·obtain rfl : j = i.1 := by omega
      simpa using h8
    refine Y99 ?_
    refine ⟨⟨i.1 + 1, hnext⟩, by show j9 k ks.length - (i.1 + 1) < j9 k ks.length - i.1; omega, i9 ?_ ?_⟩
    ·exact zE
    ·exact zH
  ·intro h7
   have hw : Z9 k ks = none := by
    unfold Z9
    rw [List.findIdx?_eq_none_iff]
    intro x hx
    obtain ⟨j, hj, rfl⟩ := List.getElem_of_mem hx
    rw [List.length_take] at hj
    rw [List.getElem_take, i.2 j (by omega) (by simp at h7; omega)]; rfl
   refine Y63 ?_;refine Rq ?_;exact c7 (by rw [hw])
end
section
variable {G : List (Nat × TypeId × Pu)}
theorem bJ3 (t0 : Tm) (hs0 : shT t0) (hN : a8 t0 < 2^30) : FCall Tryz.prog G 88 [.pu (tmc 0 t0)] (.pu (.sl 0 3 (r0 (c9 t0)))) := by
 have hpl := U9 t0
 refine Fq 19 Tryz.func88 ?_;intro w0 M ρ0 D0
 refine Y85 ?_;refine Y10 ?_;refine Tri.block (Tri.loopW (σ := {q : List Nat × Tm // q.1 ++ c9 q.2 = c9 t0 ∧ shT q.2 ∧ a8 q.2 ≤ a8 t0}) (fun i => ⟨[(1, .ptr 1 [] 32), (3, .ow 0 3 (r0 i.1.1))], [(1, .var 32 (.pu (tmc 0 i.1.2)))]⟩) (fun i => a8 i.1.2) ⟨([], t0), rfl, hs0, Nat.le_refl _⟩ ?_ ?_ (fun i => ?_))
 ·exact zk2
 ·exact zk2
 refine Y84 ?_
 obtain ⟨⟨acc, k, n, r, ks, cs⟩, hacc, hsh, hsz⟩ := i
 dsimp only at hacc hsh hsz ⊢
 have hsz' := hsz
 have hsh' := hsh
 simp only [shT] at hsh
 simp only [a8] at hsz'
 have hlen := f9 ks
 have hal := congrArg List.length hacc
 simp only [List.length_append] at hal
 have hpw := ae6 k n r ks cs
 have hmk := fun j => ad4 (k := k) (ks := ks) (j := j)
 have hwc := bA0 (G := G) k n r ks cs (bt9 hsh.1) (by simp only [a8]; omega)
 rw [hpw] at hacc
 generalize Z9 k ks = wo at hacc hmk hwc
 refine Y4 ?_;refine Dq hwc ?_;refine Y52 ?_;refine Cq ?_ ?_
 ·intro h0
  have hwo : wo = none := by cases wo with
   | none => rfl
   | some j => simp at h0; omega
  have hfin : c9 t0 = acc := by rw [hwo] at hacc; simpa using hacc.symm
  refine Y88 ?_;refine Rq ?_;exact (by rw [hfin]; exact ToPu.imp (by repeat constructor))
 ·intro h0
  obtain ⟨j, hwo⟩ : ∃ j, wo = some j := by cases wo with
   | none => simp at h0
   | some j => exact ⟨j, rfl⟩
  subst hwo
  obtain ⟨hj1, x, hx, hxv⟩ := hmk j rfl
  simp only [hx] at hacc
  have hxm := List.mem_of_getElem? hx
  have hxs := o8 hxm
  have hxg : (l8 0 ks)[j]? = some (tmc 0 x) := by simp [l6, hx]
  have hnext : (acc ++ [j]) ++ c9 x = c9 t0 ∧ shT x ∧ a8 x ≤ a8 t0 := ⟨by rw [← hacc]; simp, aD0 hsh.2.2.1 _ hxm, by omega⟩
  dsimp only
  refine Tri.skip ?_;refine Y17 ?_;refine yZ ?_;refine aH4 3 ?_ ?_
  ·simp [t8]; omega
  refine Y8 ?_;refine Y60 ?_;refine Xq hxg ?_;refine yL ?_;refine Y16 ?_
  refine ⟨⟨(acc ++ [j], x), hnext⟩, by show a8 x < a8 (.mk k n r ks cs); simp only [a8]; omega, i9 ?_ ?_⟩
  ·repeat (first | exact SubE.nil | refine SubE.cons rfl (by first | rfl | (rw [b7 (by omega) (by omega)]; rfl) | (rw [ae7]; rfl)) ?_)
  ·repeat (first | exact SubH.nil | refine SubH.cons rfl (by first | rfl | (rw [b7 (by omega) (by omega)]; rfl) | (rw [ae7]; rfl)) ?_)
theorem aJ8 (p : List Nat) (i : Nat) : (r0 p).take i = r0 (p.take i) := by simp [r0]
theorem aI4 (t0 : Tm) (p : List Nat) (hok : okP t0 p) (hl : p.length < 2^40) : FCall Tryz.prog G 89 [.pu (tmc 0 t0), .pu (.sl 0 3 (r0 p))] (.pu (tmc 0 (d0 t0 p))) := by
 refine Fq 21 Tryz.func89 ?_;intro w0 M ρ0 D0
 refine Y36 ?_;refine b9 SS 4 ?_;refine b8 [2, 4] ?_;refine Y10 ?_;refine Tri.block (Tri.loopW (σ := Nat) (fun i => ⟨[(2, .ptr 2 [] 32), (4, .ptr 4 [] 32), (1, .pu (.sl 0 3 (r0 p))), (5, iv .i64 i)], [(2, .var 32 (.pu (tmc 0 (d0 t0 (p.take i))))), (4, .var 32 (.agg 32 [iv .i64 0, iv .i64 0, .pu (l4 Z32), .nilc, .nilc]))]⟩) (fun i => p.length - i) 0 ?_ ?_ (fun i => ?_))
 ·exact zW
 ·exact zW
 refine Y17 ?_;refine Y47 ?_;refine Cq ?_ ?_
 ·intro h0
  have hi : i < p.length := by rw [t8] at h0; simpa using h0
  obtain ⟨x, hx1, hx2, hx3⟩ := ak5 hok hi
  have hpg := ac3 hi
  rw [getElem!_pos p i hi] at hx1
  generalize p[i] = m at hx1 hpg
  generalize d0 t0 (p.take i) = t at hx1 ⊢
  obtain ⟨k, n, r, ks, cs⟩ := t
  simp only [Tm.kids] at hx1
  have hxg : (l8 0 ks)[m]? = some (tmc 0 x) := by simp [l6, hx1]
  refine Y20 ?_;refine Y14 ?_;refine Y48 ?_;refine Xq hpg ?_;refine yL ?_;refine Xq hxg ?_;refine yL ?_;refine yS ?_;refine J2 ?_;refine Y40 ?_
  refine ⟨i + 1, by omega, i9 ?_ ?_⟩
  ·repeat (first | exact SubE.nil | refine SubE.cons rfl (by first | rfl | (rw [b7 (by omega) (by omega)]; rfl) | (rw [hx2])) ?_)
  ·repeat (first | exact SubH.nil | refine SubH.cons rfl (by first | rfl | (rw [b7 (by omega) (by omega)]; rfl) | (rw [hx2])) ?_)
 ·intro h0
  have hi : p.length ≤ i := by rw [t8] at h0; simpa using h0
  rw [List.take_of_length_le hi];refine Tri.exit ?_;refine aq6 ?_;refine Rc ?_;exact ToPu.imp (by repeat constructor)
theorem ad6 : ∀ {t : Tm} {p : List Nat} (i : Nat), okP t p → okP t (p.take i)
 | t, [], i, _ => by simp [okP]
 | t, j :: p, 0, _ => trivial
 | t, j :: p, i + 1, ⟨x, hx, h⟩ => ⟨x, hx, ad6 i h⟩
theorem aH8 (t0 : Tm) (p : List Nat) (hok : okP t0 p) (hl : p.length < 2^40) (hz : ∀ i (hi : i < p.length), (d0 t0 (p.take i)).kind = 12 → p[i] = 0) :
  FCall Tryz.prog G 92 [.pu (tmc 0 t0), .pu (.sl 0 3 (r0 p))] (iv .i64 (p8 (l5 t0 p) (d0 t0 p).ref p.length)) := by
 have hwl := F3 hok
 have hac := aI4 (G := G) t0 p hok hl
 have hwf : wfT t0 → wfT (d0 t0 p) := fun h => by
  have : ∀ (p : List Nat) (t : Tm), wfT t → wfT (d0 t p) := fun p => by
   induction p with
   | nil => intro t h; exact h
   | cons i p ih =>
    intro t h
    simp only [d0]
    split
    ·rename_i x hx
     obtain ⟨k, n, r, ks, cs⟩ := t
     exact ih x (ah4 h.2.1 _ (List.mem_of_getElem? hx))
    ·exact h
  exact this p t0 h
 have hwf2 : ∀ i, wfT t0 → wfT (d0 t0 (p.take i)) := fun i h => by
  have : ∀ (p : List Nat) (t : Tm), wfT t → wfT (d0 t p) := fun p => by
   induction p with
   | nil => intro t h; exact h
   | cons i p ih =>
    intro t h
    simp only [d0]
    split
    ·rename_i x hx
     obtain ⟨k, n, r, ks, cs⟩ := t
     exact ih x (ah4 h.2.1 _ (List.mem_of_getElem? hx))
    ·exact h
  exact this _ t0 h
 refine Fq 41 Tryz.func92 ?_;intro w0 M ρ0 D0
 refine Tri.fact (i := 0) rfl (fun D w x h => ab7 h) (fun hr => ?_)
 have hdl := hwf hr
 generalize hd : d0 t0 p = d at hac hdl ⊢
 obtain ⟨dk, dn, dr, dks, dcs⟩ := d
 simp only [Tm.ref]
 refine Y36 ?_;refine yB ?_;refine b8 [2] ?_;refine Y65 ?_;refine Dq hac ?_;refine b5 (an7 SS (ht := TyV.ok)) ?_;refine aC5 ?_;refine Y1 ?_;refine Y26 ?_;refine Y2 ?_;refine Tri.block (Tri.loopW (σ := {j : Nat // j ≤ p.length ∧ p8 (l5 t0 p) dr p.length = p8 (l5 t0 p) dr j}) (fun i => ⟨[(2, .ptr 2 [] 32), (5, .ptr 5 [] 28), (1, .pu (.sl 0 3 (r0 p))), (6, iv .i64 ((i.1 : Int) - 1))], [(2, .var 32 (.pu (tmc 0 t0))), (5, .var 28 (.pu (l4 dr)))]⟩) (fun i => i.1) ⟨p.length, Nat.le_refl _, rfl⟩ ?_ ?_ (fun i => ?_))
 ·repeat (first | exact .nil | refine .cons rfl (by first | exact .refl | (focus ((repeat constructor); done)) | (rw [t8, b7 (by omega) (by omega)]; exact .refl)) ?_)
 ·repeat (first | exact .nil | refine .cons rfl (by first | exact .refl | (focus ((repeat constructor); done)) | (rw [t8, b7 (by omega) (by omega)]; exact .refl)) ?_)
 refine Y30 ?_;refine Cq ?_ ?_
 ·intro h0
  have hj : 0 < i.1 := by simp at h0; omega
  obtain ⟨j, hj⟩ : ∃ j, i.1 = j + 1 := ⟨i.1 - 1, by omega⟩
  have hjp : j < p.length := by have := i.2.1; omega
  have hwg := B3 hok (show j ≤ p.length by omega)
  have hxl := hwf2 j hr
  have hst := i.2.2
  rw [hj] at hst
  simp only [p8, hwg] at hst
  have hxz := hz j hjp
  have hpg := ac3 hjp
  have hatj := aI4 (G := G) t0 (p.take j) (ad6 j hok) (by rw [List.length_take]; omega)
  rw [← aJ8] at hatj
  generalize d0 t0 (p.take j) = x at hxl hst hxz hatj
  obtain ⟨xk, xn, xr, xs, xc⟩ := x
  simp only [Tm.kind, Tm.ref] at hst hxz
  have hij : ((i.1 : Int) - 1) = (j : Int) := by omega
  refine Y20 ?_;rw [hij];refine Y4 ?_;refine Y48 ?_;refine b5 (ab5 SS (ps := r0 p) (r := j) (by rw [t8]; omega)) ?_;refine Dq hatj ?_;refine b9 SS 7 ?_;refine yS ?_;refine A5 [7] ?_;refine Y55 ?_;refine xL ?_;refine f7 zG (D4 SS (h := U6 (hxl.1.trans hdl.1.symm))) ?_;refine yN ?_;refine Y69 ?_;refine xM ?_;refine f7 zG (ar1 SS (i := (j : Int)) (.leaf (.int .i64 (p[j] : Nat))) (fun _ => ⟨by omega, by simpa using hpg⟩)) ?_;refine xL ?_;refine Y53 ?_;refine Y0 ?_;refine Cq ?_ ?_
  ·intro h1
   have hxe : xk = 12 ∧ xr = dr := by simp only [Bool.and_eq_true, beq_iff_eq] at h1; exact h1.1
   refine Y88 ?_;refine Rq ?_;exact c7 (hst.trans (if_pos (by simp [hxe]))).symm
  ·intro h1
   have hnext : p8 (l5 t0 p) dr p.length = p8 (l5 t0 p) dr j := by
    refine hst.trans (if_neg fun hc => ?_)
    simp only [Bool.and_eq_true, beq_iff_eq] at hc
    have := hxz hc.1
    simp [hc.1, hc.2, this] at h1
   refine Y99 ?_
   refine ⟨⟨j, by omega, hnext⟩, by show j < i.1; omega, i9 ?_ ?_⟩
   ·repeat (first | exact SubE.nil | refine SubE.cons rfl (by first | rfl | (rw [b7 (by omega) (by omega)]; rfl) | (rw [b7 (by omega) (by omega)])) ?_)
   ·repeat (first | exact SubH.nil | refine SubH.cons rfl (by first | rfl | (rw [b7 (by omega) (by omega)]; rfl) | (rw [b7 (by omega) (by omega)])) ?_)
 ·intro h0
  refine Y63 ?_;refine Rq ?_;exact c7 (by have := i.2.2; simp at h0; rw [this, show i.1 = 0 by omega]; rfl)
end
section
variable {G : List (Nat × TypeId × Pu)}
mutual
def gdT (d : Int) : Tm → Prop
 | .mk k n _ ks cs => (1 ≤ k ∧ k ≤ 12 ∧ k ≠ 7) ∧ y7 k ks.length = true ∧ (k = 11 → 0 ≤ n ∧ n ≤ 7) ∧ (k = 1 → 0 ≤ n ∧ n < d) ∧ gdK d k 0 ks ∧ gdC d cs
def gdK (d k : Int) (i : Nat) : List Tm → Prop
 | [] => True
 | t :: ts => gdT (d + j8 k i) t ∧ gdK d k (i + 1) ts
def gdC (d : Int) : List Cs → Prop
 | [] => True
 | c :: cs => gdS d c ∧ gdC d cs
def gdS (d : Int) : Cs → Prop
 | .mk q t => A4 q = 0 ∧ gdT (d + m7 q) t
end
mutual
theorem ab1 : ∀ {t : Tm} {d : Int}, gdT d t → shT t
 | .mk k n r ks cs, d, h => ⟨h.2.1, h.2.2.1, bO3 h.2.2.2.2.1, bO4 h.2.2.2.2.2⟩
theorem bO3 : ∀ {ks : List Tm} {d k : Int} {i : Nat}, gdK d k i ks → shL ks
 | [], _, _, _, _ => trivial
 | t :: ts, _, _, _, h => ⟨ab1 h.1, bO3 h.2⟩
theorem bO4 : ∀ {cs : List Cs} {d : Int}, gdC d cs → shC cs
 | [], _, _ => trivial
 | .mk q t :: cs, _, h => ⟨ab1 (t := t) h.1.2, bO4 h.2⟩
end
mutual
theorem af7 : ∀ {t : Tm} {d e : Int}, d ≤ e → gdT d t → gdT e t
 | .mk k n r ks cs, d, e, hd, h => ⟨h.1, h.2.1, h.2.2.1, fun hk => by have := h.2.2.2.1 hk; omega, bg0 hd h.2.2.2.2.1, bg2 hd h.2.2.2.2.2⟩
theorem bg0 : ∀ {ks : List Tm} {d e k : Int} {i : Nat}, d ≤ e → gdK d k i ks → gdK e k i ks
 | [], _, _, _, _, _, _ => trivial
 | t :: ts, d, e, k, i, hd, h => ⟨af7 (by omega) h.1, bg0 hd h.2⟩
theorem bg2 : ∀ {cs : List Cs} {d e : Int}, d ≤ e → gdC d cs → gdC e cs
 | [], _, _, _, _ => trivial
 | .mk q t :: cs, d, e, hd, h => ⟨⟨h.1.1, af7 (t := t) (d := d + m7 q) (e := e + m7 q) (by omega) h.1.2⟩, bg2 hd h.2⟩
end
theorem bk9 {b k n : Int} {r : List Int} {nk nc : Nat} (h : f8 0 0 b k n r nk nc = 0) (hn : -2^63 ≤ n ∧ n < 2^63) (hb : 0 ≤ b ∧ b < 2^62) : (1 ≤ k ∧ k ≤ 12 ∧ k ≠ 7) ∧ y7 k nk = true ∧ (k = 11 → 0 ≤ n ∧ n ≤ 7) ∧ (k = 1 → 0 ≤ n ∧ n < b) := by
 unfold f8 at h
 by_cases h0 : J0 k 1 12 = true
 ·rw [if_pos h0] at h; omega
 rw [if_neg h0] at h
 have hk := ce9 (by simpa using h0)
 by_cases h1 : E5 (E7 k) (G1 k) (A8 k) n r nc = true
 ·rw [if_pos h1] at h; omega
 rw [if_neg h1] at h
 by_cases h2 : (!y7 k nk || decide ((nc : Int) > 8)) = true
 ·rw [if_pos h2] at h; omega
 rw [if_neg h2] at h
 by_cases h3 : (k == 10 && J0 n 1 5) = true
 ·rw [if_pos h3] at h; omega
 rw [if_neg h3] at h
 by_cases h4 : (k == 1 && !S8 0 n b) = true
 ·rw [if_pos h4] at h; omega
 rw [if_neg h4] at h
 by_cases h5 : (k == 7 && (decide (n < 0) || decide (n ≥ 0))) = true
 ·rw [if_pos h5] at h; omega
 rw [if_neg h5] at h
 by_cases h6 : ((k == 2 || k == 8 || k == 11) && J0 n 0 (if k == 8 || k == 11 then 7 else 1073741824)) = true
 ·rw [if_pos h6] at h; omega
 simp only [Bool.or_eq_true, not_or, Bool.not_eq_true, Bool.not_eq_false'] at h2
 refine ⟨⟨hk.1, hk.2, fun e => ?_⟩, by simpa using h2.1, fun e => ?_, fun e => ?_⟩
 ·subst e; simp at h5; omega
 ·subst e; simp [J0] at h6; omega
 ·subst e
  have h7 : S8 0 n b = true := by simpa using h4
  simp only [S8, Bool.and_eq_true, decide_eq_true_eq, Bool.or_eq_true] at h7
  refine ⟨by omega, ?_⟩
  rcases h7.2 with h | h
  ·exact h
  ·rw [b7 (by omega) (by omega)] at h; omega
mutual
theorem aY5 : ∀ {t : Tm} {b : Int}, H8 0 0 b t = 0 → rgT t → 0 ≤ b → b + 2 * a8 t ≤ 2^60 → gdT b t
 | .mk k n r ks cs, b, h, hr, hb, hz => by
  simp only [H8] at h
  obtain ⟨h1, h⟩ := B1 h
  obtain ⟨h0, h⟩ := B1 h
  obtain ⟨h2, h3⟩ := B1 h
  have hpe := aj2 h0
  simp only [a8] at hz
  obtain ⟨g1, g2, g3, g4⟩ := bk9 h1 hr.1 (by omega)
  exact ⟨g1, g2, g3, g4, bj4 h2 hr.2.1 hb (by omega), bj7 h3 hpe hr.2.2 hb (by omega)⟩
theorem bj4 : ∀ {ks : List Tm} {b k : Int} {i : Nat}, S4 0 0 b k i ks = 0 → rgK ks → 0 ≤ b → b + 2 + 2 * d7 ks ≤ 2^60 → gdK b k i ks
 | [], _, _, _, _, _, _, _ => trivial
 | t :: ts, b, k, i, h, hr, hb, hz => by
  simp only [S4] at h
  obtain ⟨h1, h2⟩ := B1 h
  simp only [d7] at hz
  have := ae9 k i
  exact ⟨aY5 h1 hr.1 (by omega) (by omega), bj4 h2 hr.2 hb (by omega)⟩
theorem bj7 : ∀ {cs : List Cs} {b : Int}, T7 0 0 b cs = 0 → (∀ c ∈ cs, A4 (csP c) = 0) → rgC cs → 0 ≤ b → b + 2 + 2 * f6 cs ≤ 2^60 → gdC b cs
 | [], _, _, _, _, _, _ => trivial
 | .mk q t :: cs, b, h, hp, hr, hb, hz => by
  simp only [T7, Q8] at h
  obtain ⟨h1, h2⟩ := B1 h
  simp only [f6, p9] at hz
  have := y5 q
  exact ⟨⟨hp _ (List.mem_cons_self ..), aY5 (t := t) h1 hr.1 (by omega) (by omega)⟩, bj7 h2 (fun c hc => hp c (List.mem_cons_of_mem _ hc)) hr.2 hb (by omega)⟩
end
theorem bi3 {t : Tm} (h : n6 t 0 0 = 0) (hr : rgT t) : gdT 0 t := by
 have hz := (r7 h).2
 unfold n6 at h
 split at h
 ·cases h
 ·exact aY5 h hr (by omega) (by omega)
theorem at7 : ∀ {ks : List Tm} {d k : Int} {i : Nat}, gdK d k i ks → ∀ {j : Nat} {x : Tm}, ks[j]? = some x → gdT (d + j8 k ((i + j : Nat) : Int)) x
 | t :: ts, d, k, i, h, 0, x, hx => by simp at hx; subst hx; exact h.1
 | t :: ts, d, k, i, h, j + 1, x, hx => by
  have := at7 h.2 (j := j) (by simpa using hx)
  rwa [show i + 1 + j = i + (j + 1) by omega] at this
theorem L9 {t : Tm} {d : Int} (h : gdT d t) {j : Nat} {x : Tm} (hx : t.kids[j]? = some x) : gdT (d + j8 t.kind (j : Nat)) x := by
 obtain ⟨k, n, r, ks, cs⟩ := t
 have := at7 h.2.2.2.2.1 hx
 rwa [Nat.zero_add] at this
theorem aE5 : ∀ {cs : List Cs} {d : Int}, gdC d cs → ∀ c ∈ cs, A4 (csP c) = 0 ∧ gdT (d + m7 (csP c)) (csT c)
 | .mk q t :: cs, d, h, c, hc => by
  rcases List.mem_cons.1 hc with rfl | hc
  ·exact h.1
  ·exact aE5 h.2 c hc
mutual
theorem aI8 (vs : List Tm) (hvs : ∀ v ∈ vs, gdT 0 v) : ∀ (t : Tm) (d : Int), 0 ≤ d → d + vs.length + 2 * a8 t ≤ 2^60 → gdT (d + vs.length) t → gdT d (o5 vs d t)
 | .mk k n r ks cs, d, hd, hz, h => by
  simp only [a8] at hz
  obtain ⟨h1, h2, h3, h4, h5, h6⟩ := h
  have hK := bt0 vs hvs ks d k 0 hd (by omega) h5
  have hC := bt1 vs hvs cs d hd (by omega) h6
  simp only [o5]
  split
  ·rename_i hc
   have hn := h4 hc.1
   have hw : IntKind.wrap .i64 (n - d) = n - d := b7 (by omega) (by omega)
   split
   ·exact af7 hd (hvs _ (List.getElem_mem _))
   ·rename_i hlt; omega
  ·rename_i hc
   refine ⟨h1, by rw [O6]; exact h2, h3, fun hk => ?_, hK, hC⟩
   have hn := h4 hk
   refine ⟨hn.1, ?_⟩
   by_cases hv : 0 < vs.length
   ·have : ¬ 0 ≤ IntKind.wrap .i64 (n - d) := fun h0 => hc ⟨hk, h0, hv⟩
    rw [b7 (by omega) (by omega)] at this
    omega
   ·omega
theorem bt0 (vs : List Tm) (hvs : ∀ v ∈ vs, gdT 0 v) : ∀ (ks : List Tm) (d k : Int) (i : Nat), 0 ≤ d → d + vs.length + 2 + 2 * d7 ks ≤ 2^60 → gdK (d + vs.length) k i ks → gdK d k i (G5 vs d k i ks)
 | [], _, _, _, _, _, _ => trivial
 | t :: ts, d, k, i, hd, hz, h => by
  simp only [d7] at hz
  have hm := ae9 k i
  simp only [G5]
  refine ⟨aI8 vs hvs t (d + j8 k i) (by omega) (by omega) ?_, bt0 vs hvs ts d k (i + 1) hd (by omega) h.2⟩
  rw [show d + j8 k i + (vs.length : Int) = d + vs.length + j8 k i by omega];exact h.1
theorem bt1 (vs : List Tm) (hvs : ∀ v ∈ vs, gdT 0 v) : ∀ (cs : List Cs) (d : Int), 0 ≤ d → d + vs.length + 2 + 2 * f6 cs ≤ 2^60 → gdC (d + vs.length) cs → gdC d (E8 vs d cs)
 | [], _, _, _, _ => trivial
 | .mk q t :: cs, d, hd, hz, h => by
  simp only [f6, p9] at hz
  have hm := y5 q
  simp only [E8, aw0]
  refine ⟨⟨h.1.1, ?_⟩, bt1 vs hvs cs d hd (by omega) h.2⟩
  have h1 : gdT (d + vs.length + m7 q) t := h.1.2
  show gdT (d + m7 q) (o5 vs (d + m7 q) t)
  exact aI8 vs hvs t (d + m7 q) (by omega) (by omega) (by rw [show d + m7 q + (vs.length : Int) = d + vs.length + m7 q by omega]; exact h1)
end
theorem ci8 (i : Int) : j8 8 i = 0 := by unfold j8; simp
mutual
theorem aW8 : ∀ (p : Pat) {v : Tm} {d : Int}, gdT d v → ∀ x ∈ (p5 p v).1, gdT d x
 | .mk k n r ks, v, d, h, x, hx => by
  simp only [p5] at hx
  split at hx
  ·simp at hx; subst hx; exact h
  ·split at hx
   ·simp at hx
   ·split at hx
    ·split at hx
     ·simp at hx
     ·rename_i hc
      have hk8 : v.kind = 8 := by simp at hc; exact hc.1.1.1
      refine bg8 ks (fun j y hy => ?_) x hx
      have := L9 h hy
      rwa [hk8, ci8, Int.add_zero] at this
    ·simp at hx
theorem bg8 : ∀ (ps : List Pat) {vs : List Tm} {d : Int}, (∀ (j : Nat) (y : Tm), vs[j]? = some y → gdT d y) → ∀ x ∈ (r8 ps vs).1, gdT d x
 | [], vs, d, _, x, hx => by simp [r8] at hx
 | _ :: _, [], d, _, x, hx => by simp [r8] at hx
 | p :: ps, v :: vs, d, h, x, hx => by
  simp only [r8, J1] at hx
  split at hx
  ·simp only [List.mem_append] at hx
   rcases hx with hx | hx
   ·exact aW8 p (h 0 v rfl) x hx
   ·exact bg8 ps (fun j y hy => h (j + 1) y (by simpa using hy)) x hx
  ·simp at hx
end
mutual
theorem ap6 : ∀ (p : Pat) (v : Tm), (p5 p v).2 = true → A4 p = 0 → ((p5 p v).1.length : Int) = m7 p
 | .mk k n r ks, v, h, he => by
  simp only [A4] at he
  have hpe : B9 k n r ks.length = 0 := by split at he <;> assumption
  rw [if_pos hpe] at he
  simp only [p5] at h ⊢
  simp only [m7]
  split
  ·simp
  ·rename_i h1
   rw [if_neg h1] at h
   split
   ·rename_i h2
    have : ks = [] := by
     unfold B9 at hpe
     subst h2
     by_cases g0 : J0 2 1 3 = true
     ·rw [if_pos g0] at hpe; omega
     rw [if_neg g0] at hpe
     by_cases g1 : E5 ((2 : Int) == 2 || (2 : Int) == 3) ((2 : Int) == 3) false n r 0 = true
     ·rw [if_pos g1] at hpe; omega
     rw [if_neg g1] at hpe
     by_cases g2 : decide ((ks.length : Int) > (if (2 : Int) == 3 then 4 else 0)) = true
     ·rw [if_pos g2] at hpe; omega
     simp at g2
     exact g2
    subst this
    simp [J5]
   ·rename_i h2
    rw [if_neg h2] at h
    split
    ·rename_i h3
     rw [if_pos h3] at h
     split
     ·rename_i h4; rw [if_pos h4] at h; cases h
     ·rename_i h4; rw [if_neg h4] at h
      exact aA6 ks v.kids h he
    ·rename_i h3; rw [if_neg h3] at h; cases h
theorem aA6 : ∀ (ps : List Pat) (vs : List Tm), (r8 ps vs).2 = true → aQ6 ps = 0 → ((r8 ps vs).1.length : Int) = J5 ps
 | [], _, _, _ => by simp [r8, J5]
 | _ :: _, [], h, _ => by simp [r8] at h
 | p :: ps, v :: vs, h, he => by
  simp only [aQ6] at he
  have hp : A4 p = 0 := by split at he <;> assumption
  rw [if_pos hp] at he
  simp only [r8, J1] at h ⊢
  split
  ·rename_i hb
   simp only [Bool.and_eq_true] at hb
   have h1 := ap6 p v hb.1 hp
   have h2 := aA6 ps vs hb.2 he
   simp only [List.length_append, J5]
   omega
  ·rename_i hb; rw [if_neg hb] at h; cases h
end
end
section
variable {G : List (Nat × TypeId × Pu)}
theorem W6 : ∀ (N : Nat) (t : Tm), a8 t ≤ N → ∀ i (hi : i < (c9 t).length), (d0 t ((c9 t).take i)).kind = 12 → (c9 t)[i] = 0
 | 0, t, h, _, _, _ => by have := m8 t; omega
 | N + 1, .mk k n r ks cs, h, i, hi, hk => by
  have hpw := ae6 k n r ks cs
  cases hw : Z9 k ks with
  | none => rw [hw] at hpw; simp only at hpw; rw [hpw] at hi; simp at hi
  | some j =>
   obtain ⟨hj1, x, hx, hxv⟩ := ad4 hw
   rw [hw] at hpw
   simp only [hx] at hpw
   generalize c9 (.mk k n r ks cs) = p at hpw hi hk
   subst hpw
   have hxs := o8 (List.mem_of_getElem? hx)
   simp only [a8] at h
   cases i with
   | zero =>
    simp only [List.take_zero, d0, Tm.kind] at hk
    subst hk
    have : j9 12 ks.length = 1 := by simp [j9]
    simp; omega
   | succ i =>
    simp only [List.take_succ_cons, d0, Tm.kids, hx] at hk
    simp only [List.getElem_cons_succ]
    exact W6 N x (by omega) i (by simpa using hi) hk
theorem aK5 {v : Tm} : ∀ {cs : List Cs} {o : Nat}, U3 v cs o = none → u7 cs v = j7
 | [], _, _ => rfl
 | .mk q b :: cs, o, h => by
  simp only [U3] at h
  split at h
  ·cases h
  ·rename_i hf
   simp only [u7, if_neg hf]
   exact aK5 h
theorem aK6 {v : Tm} (hv : gdT 0 v) : ∀ {cs : List Cs} {o : Nat}, gdC 0 cs → a8 v + 2 * f6 cs ≤ 2^50 → (U3 v cs o).isSome = true → gdT 0 (u7 cs v)
 | [], _, _, _, h => by simp [U3] at h
 | .mk q b :: cs, o, hc, hz, h => by
  simp only [f6, p9] at hz
  simp only [U3] at h
  simp only [u7]
  split
  ·rename_i hf
   have hl := ap6 q v hf hc.1.1
   have hb := ap7 q v
   refine aI8 _ (aW8 q hv) b 0 (Int.le_refl _) (by omega) ?_;rw [hl];exact hc.1.2
  ·rename_i hf
   rw [if_neg hf] at h
   exact aK6 hv hc.2 (by omega) h
theorem ap2 {v : Tm} (hv : gdT 0 v) {cs : List Cs} (hc : gdC 0 cs) (hz : a8 v + 2 * f6 cs ≤ 2^50) : ((u7 cs v).kind != 0) = (U3 v cs 0).isSome := by
 cases h : U3 v cs 0 with
 | none => rw [aK5 h]; rfl
 | some x =>
  have := aK6 hv hc hz (by rw [h]; rfl)
  generalize u7 cs v = m at this
  obtain ⟨k, n, r, ks, cs'⟩ := m
  have h1 := this.1
  simp [Tm.kind]; omega
theorem bx0 {s : List Int} : ∀ {ts : List KT}, (M0 s ts).isSome = true ↔ s ∈ ts.map (·.1)
 | [] => by simp [M0]
 | x :: ts => by
  have ih := bx0 (s := s) (ts := ts)
  simp only [M0, List.map_cons, List.mem_cons]
  split
  ·rename_i h; simp [h]
  ·rename_i h; rw [ih]; simp [h]
theorem bx2 {s : List Int} {ts : List KT} : (M0 s ts).isSome = decide (0 ≤ am8 s ts) := by
 rw [Bool.eq_iff_iff, bx0, decide_eq_true_eq, bv2]
theorem at6 : ∀ {p : List Nat} {t : Tm}, gdT 0 t → (∀ i (_ : i < p.length), j8 (d0 t (p.take i)).kind ((p[i]'(by assumption) : Nat) : Int) = 0) → gdT 0 (d0 t p)
 | [], t, h, _ => h
 | j :: p, t, h, hm => by
  simp only [d0]
  split
  ·rename_i x hx
   have h0 := hm 0 (by simp)
   simp only [List.take_zero, d0, List.getElem_cons_zero] at h0
   have hg := L9 h hx
   rw [h0, Int.add_zero] at hg
   refine at6 hg fun i hi => ?_
   have := hm (i + 1) (by simpa using hi)
   simpa only [List.take_succ_cons, d0, hx, List.getElem_cons_succ] using this
  ·exact h
theorem ao8 : ∀ (N : Nat) (t : Tm), a8 t ≤ N → ∀ i (hi : i < (c9 t).length), j8 (d0 t ((c9 t).take i)).kind (((c9 t)[i] : Nat) : Int) = 0
 | 0, t, h, _, _ => by have := m8 t; omega
 | N + 1, .mk k n r ks cs, h, i, hi => by
  have hpw := ae6 k n r ks cs
  cases hw : Z9 k ks with
  | none => rw [hw] at hpw; simp only at hpw; rw [hpw] at hi; simp at hi
  | some j =>
   obtain ⟨hj1, x, hx, hxv⟩ := ad4 hw
   rw [hw] at hpw
   simp only [hx] at hpw
   generalize c9 (.mk k n r ks cs) = p at hpw hi
   subst hpw
   have hxs := o8 (List.mem_of_getElem? hx)
   simp only [a8] at h
   cases i with
   | zero =>
    simp only [List.take_zero, d0, Tm.kind, List.getElem_cons_zero]
    unfold j9 at hj1
    unfold j8
    split at hj1
    ·rw [if_neg (by omega), if_neg (by omega)]
    ·split at hj1
     ·rw [if_neg (by omega), if_neg (by omega)]
     ·omega
   | succ i =>
    simp only [List.take_succ_cons, d0, Tm.kids, hx, List.getElem_cons_succ]
    exact ao8 N x (by omega) i (by simpa using hi)
theorem aL3 {t : Tm} (h : gdT 0 t) : gdT 0 (d0 t (c9 t)) := at6 h fun i hi => ao8 _ t (Nat.le_refl _) i hi
abbrev ce3 (x : Int × List Nat) : PV := .tup [iv .i64 x.1, .pu (.sl 0 3 (r0 x.2))]
def L7 (ts : List KT) (t : Tm) : Int × List Nat := if D3 t then (0, []) else (y6 ts t (c9 t), c9 t)
set_option maxHeartbeats 4000000 in
theorem aD2 (a b : Pu) (ts : List KT) (hts : ts.length < 2^40) (t : Tm) (hg : gdT 0 t) (hN : a8 t < 2^28) : FCall Tryz.prog G 17 [.pu (wdP a b ts), .pu (tmc 0 t)] (ce3 (L7 ts t)) := by
 have hsh := ab1 hg
 have hok := F7 hsh
 have hpl := U9 t
 have hwl := F3 hok
 have hgw := aL3 hg
 have hwsz := t5 (t := t) (p := c9 t)
 have hac := aI4 (G := G) t (c9 t) hok (by omega)
 have hhc := aH8 (G := G) t (c9 t) hok (by omega) (W6 _ t (Nat.le_refl _))
 have hhl := af5 (l5 t (c9 t)) (d0 t (c9 t)).ref (c9 t).length
 have hkM : ∀ w, d0 t (c9 t) = w → y6 ts t (c9 t) = z7 ts (l5 t (c9 t)) (c9 t).length w := fun w e => by unfold y6; rw [e]
 refine Fq 104 Tryz.func17 ?_;intro w0 M ρ0 D0
 refine Y73 ?_;refine yB ?_;refine b8 [2, 3] ?_;refine Y4 ?_;refine Dq (ai0 _ t (Nat.le_refl _) (by omega)) ?_;refine Y0 ?_;refine Cq ?_ ?_
 ·intro h0
  have hfin : L7 ts t = (0, []) := by simp [L7, h0]
  refine aq5 ?_;exact Tri.ret ⟨.inr rfl, q8 rfl b4 ((by rw [hfin]; exact VImp.refl _)) b4 ((by rw [hfin]; exact ToPu.imp (by repeat constructor)))⟩
 ·intro h0
  have hfin : L7 ts t = (y6 ts t (c9 t), c9 t) := by simp [L7, h0]
  have hpc := bJ3 (G := G) t hsh (by omega)
  generalize hp : c9 t = p at *
  generalize hw : d0 t p = w at *
  obtain ⟨k, n, r, ks, cs⟩ := w
  have hkM := hkM _ rfl
  simp only [Tm.ref] at hhc hhl
  obtain ⟨hg1, hg2, hg3, hg4, hg5, hg6⟩ := hgw
  simp only [a8] at hwsz
  have hlen := f9 ks
  obtain ⟨x0, hx0⟩ : ∃ x, x = ks.getD 0 j7 := ⟨_, rfl⟩
  obtain ⟨x1, hx1⟩ : ∃ x, x = ks.getD 1 j7 := ⟨_, rfl⟩
  have g0 : 0 < ks.length → (l8 0 ks)[0]? = some (tmc 0 x0) := fun h => by rw [q7 h, hx0]; simp [List.getD_eq_getElem?_getD, h]
  have g1 : 1 < ks.length → (l8 0 ks)[1]? = some (tmc 0 x1) := fun h => by rw [q7 h, hx1]; simp [List.getD_eq_getElem?_getD, h]
  have e0 : ∀ h : 0 < ks.length, ks[0] = x0 := fun h => by rw [hx0]; simp [List.getD_eq_getElem?_getD, h]
  have e1 : ∀ h : 1 < ks.length, ks[1] = x1 := fun h => by rw [hx1]; simp [List.getD_eq_getElem?_getD, h]
  clear hx0 hx1
  obtain ⟨x0k, x0n, x0r, x0ks, x0cs⟩ := x0
  obtain ⟨x1k, x1n, x1r, x1ks, x1cs⟩ := x1
  refine Y72 ?_;refine Dq hpc ?_;refine Y8 ?_;refine Y65 ?_;refine Dq hac ?_;refine b9 SS 7 ?_;refine yS ?_;refine b8 [7] ?_;refine Y10 ?_;refine Tri.block ?_;refine Y55 ?_;refine f7 zG (ar1 SS (i := 0) (tmc 0 (.mk x0k x0n x0r x0ks x0cs)) (fun e => ⟨by omega, by simpa using g0 (by simp only [beq_iff_eq] at e; subst e; simp [y7] at hg2; omega)⟩)) ?_;refine Y6 ?_;refine xI ?_;refine Y44 ?_;refine Cq ?_ ?_
  ·intro h1
   simp only [Bool.and_eq_true, beq_iff_eq] at h1
   have hl : 0 < ks.length := by rw [h1.1] at hg2; simp [y7] at hg2; omega
   have hsp : z7 ts (l5 t p) p.length (.mk k n r ks cs) = 1 := by simp only [z7, h1.1, if_true, List.getElem?_eq_getElem hl, e0 hl, Tm.kind, h1.2] <;> rfl
   refine Y21 ?_;refine ay3 ?_;exact Tri.ret ⟨.inr rfl, q8 rfl b4 (c7 (by first | (rw [hfin, hkM, hsp]; done) | (rw [hfin, hkM, hsp]; rfl))) b4 ((by rw [hfin]; exact VImp.refl _))⟩
  ·intro h1
   refine Y24 ?_;refine Y2 ?_;refine Cq ?_ ?_
   ·intro h2
    have hsp : z7 ts (l5 t p) p.length (.mk k n r ks cs) = 2 := by simp only [beq_iff_eq] at h2; subst h2; rfl
    refine Y21 ?_;refine ay3 ?_;exact Tri.ret ⟨.inr rfl, q8 rfl b4 (c7 (by first | (rw [hfin, hkM, hsp]; done) | (rw [hfin, hkM, hsp]; rfl))) b4 ((by rw [hfin]; exact VImp.refl _))⟩
   ·intro h2
    refine Y24 ?_;refine Y39 ?_;refine f7 zG (c8 (fun _ => aV3 ts r hts)) ?_;refine xI ?_;refine Y44 ?_;refine Cq ?_ ?_
    ·intro h3
     simp only [Bool.and_eq_true, beq_iff_eq] at h3
     have hsp : z7 ts (l5 t p) p.length (.mk k n r ks cs) = 3 := by simp only [z7, h3.1]; rw [bx2, show decide (0 ≤ am8 r ts) = true from by simpa using h3.2]; rfl
     refine Y21 ?_;refine ay3 ?_;exact Tri.ret ⟨.inr rfl, q8 rfl b4 (c7 (by first | (rw [hfin, hkM, hsp]; done) | (rw [hfin, hkM, hsp]; rfl))) b4 ((by rw [hfin]; exact VImp.refl _))⟩
    ·intro h3
     refine Y55 ?_;refine f7 zG (ar1 SS (i := 0) (tmc 0 (.mk x0k x0n x0r x0ks x0cs)) (fun e => ⟨by omega, by simpa using g0 (by simp only [beq_iff_eq] at e; subst e; simp [y7] at hg2; omega)⟩)) ?_;refine Y6 ?_;refine Y53 ?_;refine Y12 ?_;refine f7 zG (ar1 SS (i := 1) (tmc 0 (.mk x1k x1n x1r x1ks x1cs)) (fun e => ⟨by omega, by simpa using g1 (by simp only [Bool.and_eq_true, beq_iff_eq] at e; obtain ⟨e, _⟩ := e; subst e; simp [y7] at hg2; omega)⟩)) ?_;refine Y6 ?_;refine xI ?_;refine Y44 ?_;refine Cq ?_ ?_
     ·intro h4
      simp only [Bool.and_eq_true, beq_iff_eq] at h4
      have hl : ks.length = 2 := by rw [h4.1.1] at hg2; simp [y7] at hg2; omega
      have hsp : z7 ts (l5 t p) p.length (.mk k n r ks cs) = 4 := by
       obtain ⟨y0, y1, rfl⟩ : ∃ y0 y1, ks = [y0, y1] := bM6 hl
       have q0 := e0 (by simp)
       have q1 := e1 (by simp)
       simp only [List.getElem_cons_zero, List.getElem_cons_succ] at q0 q1
       subst q0 q1
       simp [z7, h4.1.1, Tm.kind, h4.1.2, h4.2]
      refine Y21 ?_;refine ay3 ?_;exact Tri.ret ⟨.inr rfl, q8 rfl b4 (c7 (by first | (rw [hfin, hkM, hsp]; done) | (rw [hfin, hkM, hsp]; rfl))) b4 ((by rw [hfin]; exact VImp.refl _))⟩
     ·intro h4
      refine Y24 ?_;refine Y2 ?_;refine Cq ?_ ?_
      ·intro h5
       have hk9 : k = 9 := by simpa using h5
       have hl : ks.length = 1 := by rw [hk9] at hg2; simp [y7] at hg2; omega
       obtain ⟨v, rfl⟩ : ∃ v, ks = [v] := List.length_eq_one_iff.1 hl
       have hvg : gdT 0 v := by have := hg5.1; rw [hk9, show j8 9 ((0 : Nat) : Int) = 0 from by simp [j8]] at this; simpa using this
       have hmk := ap2 hvg hg6 (by simp only [d7] at hwsz; omega)
       have hsp : z7 ts (l5 t p) p.length (.mk k n r [v] cs) = cond (U3 v cs 0).isSome 5 8 := by rw [← hmk]; subst hk9; rfl
       refine Y4 ?_;refine Dq (aH9 k n r v [] cs (by simp only [a8]; omega)) ?_;refine Y28 ?_;refine yA ?_;refine Y52 ?_;refine Cq ?_ ?_
       ·intro h6
        have hso : (U3 v cs 0).isSome = true := by cases hf : U3 v cs 0 with
         | none => rw [hf] at h6; simp at h6
         | some x => rfl
        rw [hso] at hsp
        refine Y21 ?_;refine ay3 ?_;exact Tri.ret ⟨.inr rfl, q8 rfl b4 (c7 (by first | (rw [hfin, hkM, hsp]; done) | (rw [hfin, hkM, hsp]; rfl))) b4 ((by rw [hfin]; exact VImp.refl _))⟩
       ·intro h6
        have hso : (U3 v cs 0).isSome = false := by cases hf : U3 v cs 0 with
         | none => rfl
         | some x => rw [hf] at h6; simp at h6
        rw [hso] at hsp
        refine Tri.skip ?_;refine ay3 ?_;exact Tri.ret ⟨.inr rfl, q8 rfl b4 (c7 (by first | (rw [hfin, hkM, hsp]; done) | (rw [hfin, hkM, hsp]; rfl))) b4 ((by rw [hfin]; exact VImp.refl _))⟩
      ·intro h5
       refine Y24 ?_;refine Y2 ?_;refine Cq ?_ ?_
       ·intro h7
        have hk11 : k = 11 := by simpa using h7
        have hnum := hg3 hk11
        have hsp : z7 ts (l5 t p) p.length (.mk k n r ks cs) = (if p8 (l5 t p) r p.length < 0 then 9 else match (l5 t p)[(p8 (l5 t p) r p.length).toNat]? with | some h => cond (decide ((h.kids.length : Int) > 2 + n)) 6 8 | none => 8) := by subst hk11; rfl
        refine Y65 ?_;refine Dq hhc ?_;refine Y52 ?_;refine Cq ?_ ?_
        ·intro h8
         rw [if_pos (by simpa using h8)] at hsp
         refine Y21 ?_;refine ay3 ?_;exact Tri.ret ⟨.inr rfl, q8 rfl b4 (c7 (by first | (rw [hfin, hkM, hsp]; done) | (rw [hfin, hkM, hsp]; rfl))) b4 ((by rw [hfin]; exact VImp.refl _))⟩
        ·intro h8
         have hnn : ¬ p8 (l5 t p) r p.length < 0 := by simpa using h8
         rw [if_neg hnn] at hsp
         obtain ⟨m, hm⟩ : ∃ m : Nat, p8 (l5 t p) r p.length = (m : Int) := ⟨(p8 (l5 t p) r p.length).toNat, by omega⟩
         rw [hm] at hsp hhl ⊢
         have hmp : m < p.length := by omega
         have hwg := B3 hok (show m ≤ p.length by omega)
         simp only [Int.toNat_natCast, hwg] at hsp
         have hatm := aI4 (G := G) t (p.take m) (ad6 m hok) (by rw [List.length_take]; omega)
         rw [← aJ8] at hatm
         generalize d0 t (p.take m) = x at hsp hatm
         obtain ⟨xk, xn, xr, xks, xcs⟩ := x
         simp only [Tm.kids] at hsp
         refine Y24 ?_;refine yL ?_;refine Y48 ?_;refine b5 (ab5 SS (ps := r0 p) (r := m) (by rw [t8]; omega)) ?_;refine Dq hatm ?_;refine b5 (an7 SS (ht := TyV.ok)) ?_;refine Y26 ?_;refine Y42 ?_;refine Cq ?_ ?_
         ·intro h9
          rw [a9, b7 (by omega) (by omega)] at h9
          replace hsp := hsp.trans (show _ = (6 : Int) from by have h : 2 + n < (xks.length : Int) := (by have := of_decide_eq_true h9; omega); simp [h])
          refine Y21 ?_;refine ay3 ?_;exact Tri.ret ⟨.inr rfl, q8 rfl b4 (c7 (by first | (rw [hfin, hkM, hsp]; done) | (rw [hfin, hkM, hsp]; rfl))) b4 ((by rw [hfin]; exact VImp.refl _))⟩
         ·intro h9
          rw [a9, b7 (by omega) (by omega)] at h9
          replace hsp := hsp.trans (show _ = (8 : Int) from by have h : ¬ 2 + n < (xks.length : Int) := (by have := of_decide_eq_false h9; omega); simp [h])
          refine Tri.skip ?_;refine ay3 ?_;exact Tri.ret ⟨.inr rfl, q8 rfl b4 (c7 (by first | (rw [hfin, hkM, hsp]; done) | (rw [hfin, hkM, hsp]; rfl))) b4 ((by rw [hfin]; exact VImp.refl _))⟩
       ·intro h7
        refine Y24 ?_;refine Y2 ?_;refine Cq ?_ ?_
        ·intro h10
         have hsp : z7 ts (l5 t p) p.length (.mk k n r ks cs) = 7 := by simp only [beq_iff_eq] at h10; subst h10; rfl
         refine Y21 ?_;refine ay3 ?_;exact Tri.ret ⟨.inr rfl, q8 rfl b4 (c7 (by first | (rw [hfin, hkM, hsp]; done) | (rw [hfin, hkM, hsp]; rfl))) b4 ((by rw [hfin]; exact VImp.refl _))⟩
        ·intro h10
         have hsp : z7 ts (l5 t p) p.length (.mk k n r ks cs) = 8 := by
          simp only [beq_eq_false_iff_ne, ne_eq, Bool.and_eq_false_iff, decide_eq_false_iff_not] at h1 h2 h3 h4 h5 h7 h10
          simp only [z7]
          by_cases k4 : k = 4
          ·have hl : 0 < ks.length := by rw [k4] at hg2; simp [y7] at hg2; omega
           rw [if_pos k4, List.getElem?_eq_getElem hl, e0 hl]
           have : ¬ x0k = 3 := h1.elim (fun h => absurd k4 h) id
           simp only [Tm.kind, show (x0k == 3) = false from by simpa using this, cond_false]
          rw [if_neg k4, if_neg h2]
          by_cases k6 : k = 6
          ·rw [if_pos k6, bx2]
           have : ¬ am8 r ts ≥ 0 := h3.elim (fun h => absurd k6 h) id
           rw [show decide (0 ≤ am8 r ts) = false from by simp; omega]; rfl
          rw [if_neg k6]
          by_cases k10 : k = 10
          ·have hl : ks.length = 2 := by rw [k10] at hg2; simp [y7] at hg2; omega
           obtain ⟨y0, y1, rfl⟩ : ∃ y0 y1, ks = [y0, y1] := bM6 hl
           have q0 := e0 (by simp)
           have q1 := e1 (by simp)
           simp only [List.getElem_cons_zero, List.getElem_cons_succ] at q0 q1
           subst q0 q1;rw [if_pos k10]
           have : ¬ (x0k = 2 ∧ x1k = 2) := fun ⟨a, b⟩ => h4.elim (fun h => h.elim (fun h => h k10) fun h => h a) fun h => h b
           have h5 : ([Tm.mk x0k x0n x0r x0ks x0cs, .mk x1k x1n x1r x1ks x1cs].all fun x => x.kind == 2) = false := by
            simp only [List.all_cons, List.all_nil, Bool.and_true, Tm.kind]
            rw [Bool.eq_false_iff]; simpa using this
           rw [h5]; rfl
          rw [if_neg k10, if_neg h5, if_neg h7, if_neg h10]
         refine Tri.skip ?_;refine ay3 ?_;exact Tri.ret ⟨.inr rfl, q8 rfl b4 (c7 (by first | (rw [hfin, hkM, hsp]; done) | (rw [hfin, hkM, hsp]; rfl))) b4 ((by rw [hfin]; exact VImp.refl _))⟩
end
section
section
variable {G : List (Nat × TypeId × Pu)} {lo : Nat}
theorem bW1 {vf : PV} {f : FuncId} {first captured : List PV} {HR : List (Nat × Ob)} (hvf : fnV vf = some (f, first, captured)) (hst : Str vf vf) (hnt : m3 vf = false) (hent : n9 Tryz.prog f = true) (hna : (first ++ captured).any m3 = false)
  (hfree : ∀ l ob, get HR l = some ob → B2 ob = true) {ps : List Pu} (hlen : ps.length < 4611686018427387904) {H H' : List (Nat × Ob)} {r : Option Nat} (hd0 : E9 HR H' = true) (hk : ∀ l ob, get H l = some ob → ∃ ob', get H' l = some ob') (hR : ∀ l ob, get HR l = some ob → get H l = none)
  (h : AnyC Tryz.prog G f first captured HR ps H r H') : HCall Tryz.prog G 142 [.pu (.sl lo 116 ps), vf] HR H (iv .i64 (ac5 r)) H' [] := by
 refine HCall.of_tri tbl (n := 19) (L := j4 H' ++ y4 H') Tryz.func142 rfl rfl hfree (fun l ob hl => r6 hd0 hl) (fun l hl => by simp [PV.labs] at hl) (fun l ob hl => S1 hl) hk ?_
 rintro ⟨w0, n', M, G', L, R, ρ0, D0, ro⟩ hn hG hL hR' hro
 simp only at hn hG hL hR' hro
 subst hn hG hL hR' hro
 have hset : ∀ (i : Nat) (H1 : List (Nat × Ob)) (r1 : Option Nat), AnyC Tryz.prog G' f first captured HR (ps.drop i) H1 r1 H' → True := fun _ _ _ _ => trivial
 let σ := {s : Nat × List (Nat × Ob) × Option Nat // AnyC Tryz.prog G' f first captured HR (ps.drop s.1) s.2.1 s.2.2 H' ∧ s.1 ≤ ps.length ∧ ac5 r = (match s.2.2 with | some j => ((s.1 + j : Nat) : Int) | none => -1) ∧ (∀ l ob, get s.2.1 l = some ob → l ∉ j4 HR)}
 refine Y71 ?_;refine Y43 ?_;refine Tri.block (Tri.loop (σ := σ) (fun s => ⟨[(0, .pu (.sl lo 116 ps)), (1, vf), (7, iv .i64 ps.length), (8, iv .i64 s.1.1)], HR ++ s.1.2.1⟩) (fun s => ps.length - s.1.1) ⟨(0, H, r), by simpa using h, Nat.zero_le _, by cases r <;> simp [ac5], fun l ob hl hm => ?_⟩ ?_ (fun s => ?_))
 ·obtain ⟨ob', ho⟩ := n7 (a := HR) hm
  rw [hR l ob' ho] at hl
  cases hl
 ·exact aD8 (.cons rfl rfl (.cons rfl rfl (.cons rfl rfl (.cons rfl rfl .nil))))
 obtain ⟨⟨i, H1, r1⟩, hA, hi0, hr1, hdisj⟩ := s
 simp only at hA hi0 hr1 hdisj ⊢
 refine Y9 ?_;refine B5 ?_;refine Tri.seq (Tri.cond rfl (fun hb => Tri.skip ?_) (fun hb => Tri.exit ?_))
 ·have hi : i < ps.length := by simpa using hb
  obtain ⟨p, hp⟩ : ∃ p, ps[i]? = some p := ⟨ps[i], by simp [hi]⟩
  have hdr : ps.drop i = p :: ps.drop (i + 1) := by
   rw [List.drop_eq_getElem_cons hi]
   simp only [List.getElem?_eq_getElem hi, Option.some.injEq] at hp
   rw [hp]
  rw [hdr] at hA
  have hHR : ∀ l ob, get HR l = some ob → ∃ ob1, get (HR ++ H1) l = some ob1 ∧ ObImp Tryz.prog ob1 ob := fun l ob hl => ⟨ob, by rw [d8, hl]; rfl, ObImp.refl _⟩
  have hH1 : ∀ l ob, get H1 l = some ob → l ∉ j4 HR ∧ ∃ ob1, get (HR ++ H1) l = some ob1 ∧ ObImp Tryz.prog ob1 ob := fun l ob hl => by
   refine ⟨hdisj l ob hl, ob, ?_, ObImp.refl _⟩
   rw [d8]
   cases hg : get HR l with
   | some o => exact absurd (o9 hg) (hdisj l ob hl)
   | none => simpa using hl
  have hnt2 : (first ++ [PV.pu p] ++ captured).any m3 = false := by
   simp only [List.any_append, Bool.or_eq_false_iff] at hna ⊢
   exact ⟨⟨hna.1, by simp [m3]⟩, hna.2⟩
  refine Tri.seq (Tri.block ?_);refine Y95 ?_
  cases hA with
  | hit hc hd =>
   refine yR ?_;refine b5 (N8 SS (h := Ev.mk rfl hst)) ?_;refine Y48 ?_;refine Xq hp ?_;refine yL ?_;refine C9 (vf := vf) (first := first) (captured := captured) (vs := [.pu p]) (HR := HR) (H := H1) (news := []) rfl hst hvf hent (.cons (.mk rfl .pu) .nil) rfl (VImps.refl _) hnt2 hHR hH1 hc rfl ?_;refine Y0 ?_;refine Tri.condT rfl ?_;refine Y95 ?_;refine Tri.ret ⟨.inr rfl, _, Ghost.refl _, B8 rfl b4 (c7 ?_), fun l ob hl => ⟨ob, ?_, ObImp.refl _⟩⟩
   ·rw [hr1]
    simp
   ·rw [d8, hl]; rfl
  | next hc hd t =>
   rename_i H2 r2
   refine yR ?_;refine b5 (N8 SS (h := Ev.mk rfl hst)) ?_;refine Y48 ?_;refine Xq hp ?_;refine yL ?_;refine C9 (vf := vf) (first := first) (captured := captured) (vs := [.pu p]) (HR := HR) (H := H1) (news := []) rfl hst hvf hent (.cons (.mk rfl .pu) .nil) rfl (VImps.refl _) hnt2 hHR hH1 hc rfl ?_;refine Y0 ?_;refine Tri.condF rfl ?_;refine Y66 ?_
   refine ⟨⟨(i + 1, H2, r2), t, hi, ?_, fun l ob hl hm => ?_⟩, by simp; omega, aD9 hd (.cons rfl rfl (.cons rfl rfl (.cons rfl rfl (.cons rfl ?_ .nil))))⟩
   ·rw [hr1]
    cases r2 with
    | none => rfl
    | some j => exact congrArg (fun n : Nat => (n : Int)) (show i + (j + 1) = i + 1 + j by omega)
   ·obtain ⟨ob', ho⟩ := n7 (a := HR) hm
    rw [r6 hd hl] at ho
    cases ho
   ·rw [b7 (by omega) (by omega)]
    rfl
 ·have hi : i = ps.length := by
   have : ps.length ≤ i := by simpa using hb
   omega
  subst hi
  rw [List.drop_length] at hA
  cases hA
  refine Y21 ?_;refine Tri.ret ⟨.inr rfl, _, Ghost.refl _, B8 rfl b4 (c7 (by rw [hr1])), fun l ob hl => ⟨ob, ?_, ObImp.refl _⟩⟩;rw [d8]
  cases hg : get HR l with
  | some o => exact absurd (o9 hg) (hdisj l ob hl)
  | none => simpa using hl
theorem bX8 {vf : PV} {f : FuncId} {first captured : List PV} {HR : List (Nat × Ob)} (hvf : fnV vf = some (f, first, captured)) (hst : Str vf vf) (hnt : m3 vf = false) (hent : n9 Tryz.prog f = true) (hna : (first ++ captured).any m3 = false)
  (hfree : ∀ l ob, get HR l = some ob → B2 ob = true) {ps : List Pu} (hlen : ps.length < 4611686018427387904) {H H' : List (Nat × Ob)} {r : Option Nat} (hd0 : E9 HR H' = true) (hd1 : E9 HR H = true) (hk : ∀ l ob, get H l = some ob → ∃ ob', get H' l = some ob')
  (h : AnyC Tryz.prog G f first captured HR ps H r H') : HCall Tryz.prog G 79 [.pu (.sl lo 116 ps), vf] HR H (bv r.isSome) H' [] := by
 refine HCall.of_tri tbl (n := 9) (L := j4 H' ++ y4 H') Tryz.func79 rfl rfl hfree (fun l ob hl => r6 hd0 hl) (fun l hl => by simp [PV.labs] at hl) (fun l ob hl => S1 hl) hk ?_
 rintro ⟨w0, n', M, G', L, R, ρ0, D0, ro⟩ hn hG hL hR' hro
 simp only at hn hG hL hR' hro
 subst hn hG hL hR' hro
 have hHR : ∀ l ob, get HR l = some ob → ∃ ob1, get (HR ++ H) l = some ob1 ∧ ObImp Tryz.prog ob1 ob := fun l ob hl => ⟨ob, by rw [d8, hl]; rfl, ObImp.refl _⟩
 have hH1 : ∀ l ob, get H l = some ob → l ∉ j4 HR ∧ ∃ ob1, get (HR ++ H) l = some ob1 ∧ ObImp Tryz.prog ob1 ob := fun l ob hl => by
  have hz := r6 hd1 hl
  refine ⟨fun hm => ?_, ob, ?_, ObImp.refl _⟩
  ·obtain ⟨ob', ho⟩ := n7 (a := HR) hm
   rw [hz] at ho; cases ho
  ·rw [d8, hz]; simpa using hl
 refine Y71 ?_;refine b5 (N8 SS (h := Ev.mk rfl hst)) ?_;refine C9 (vf := .pu (.leaf (.func (.func 142) #[] #[]))) (first := []) (captured := []) (vs := [.pu (.sl lo 116 ps), vf]) (HR := HR) (H := H) (news := []) rfl .pu rfl (by kernel_rfl) (.cons (.mk rfl .pu) (.cons (.mk rfl hst) .nil)) (by rw [List.any_cons, List.any_cons, hnt]; rfl) (VImps.refl _) (by rw [List.nil_append, List.append_nil, List.any_cons, List.any_cons, hnt]; rfl) hHR hH1 (bW1 hvf hst hnt hent hna hfree hlen hd0 hk (fun l ob hl => N6 hd1 hl) h) rfl ?_;refine yI ?_;refine Y8 ?_;refine Tri.ret ⟨.inr rfl, _, Ghost.refl _, B8 rfl b4 (m0 ?_), fun l ob hl => ⟨ob, by rw [d8, hl]; rfl, ObImp.refl _⟩⟩
 cases r with
 | none => simp [ac5]
 | some j => simp [ac5]
theorem bX7 (vf : PV) {f : FuncId} {first captured : List PV} {HR : List (Nat × Ob)} {ps : List Pu} (hlen : ps.length < 4611686018427387904) {H H' : List (Nat × Ob)} {r : Option Nat} (h : AnyC Tryz.prog G f first captured HR ps H r H')
  (hvf : fnV vf = some (f, first, captured) := by rfl) (hst : Str vf vf := by repeat constructor) (hnt : m3 vf = false := by rfl) (hent : n9 Tryz.prog f = true := by kernel_rfl) (hna : (first ++ captured).any m3 = false := by rfl)
  (hfree : HR.all (fun q => B2 q.2) = true := by rfl) (hd0 : E9 HR H' = true := by rfl) (hd1 : E9 HR H = true := by rfl) (hk : ((j4 H).all fun l => (j4 H').contains l) = true := by rfl) :
  HCall Tryz.prog G 79 [.pu (.sl lo 116 ps), vf] HR H (bv r.isSome) H' [] :=
 bX8 hvf hst hnt hent hna (fun l ob hl => List.all_eq_true.1 hfree _ (y9 hl)) hlen hd0 hd1 (fun l ob hl => n7 (by simpa [j4] using List.all_eq_true.1 hk l (o9 hl))) h
end
variable {G : List (Nat × TypeId × Pu)}
theorem bC0 (x : KT) (hN : a8 x.2 < 2^40) : FCall Tryz.prog G 82 [.pu (ktP x)] (bv (X8 x.2)) := by
 refine Fq 6 Tryz.func82 ?_;intro w0 M ρ0 D0
 refine Y85 ?_;refine Y13 ?_;refine Dq (aE4 x.2 hN) ?_;refine Y2 ?_;refine Rq ?_;exact VImp.refl _
def aC7 (ts : List KT) (t : Tm) : Bool := decide ((ts.length : Int) > 45) || X8 t || ts.any (fun x => X8 x.2)
theorem av3 {ts : List KT} {t : Tm} (h : aC7 ts t = false) : ts.length ≤ 45 ∧ a8 t ≤ 400 ∧ ∀ x ∈ ts, a8 x.2 ≤ 400 := by
 simp only [aC7, Bool.or_eq_false_iff, decide_eq_false_iff_not, List.any_eq_false] at h
 exact ⟨by omega, af6 h.1.2, fun x hx => af6 (by simpa using h.2 x hx)⟩
theorem aK9 (a b : Pu) (ts : List KT) (t : Tm) (hl : ts.length < 2^40) (hts : ∀ x ∈ ts, a8 x.2 < 2^40) (hN : a8 t < 2^40) : FCall Tryz.prog G 12 [.pu (wdP a b ts), .pu (tmc 0 t)] (bv (aC7 ts t)) := by
 have hA : ∃ r : Option Nat, r.isSome = ts.any (fun x => X8 x.2) ∧ AnyC Tryz.prog G 82 [] [] [] (ts.map ktP) [] r [] := by
  have := AnyC.state (P := Tryz.prog) (G := G) (f := 82) (first := []) (captured := []) (HR := []) ktP (fun c a => (X8 a.2, c)) (fun _ => []) (fun _ => True) (fun _ => rfl) ts (fun a ha c _ => ⟨bC0 a (hts a ha), fun _ => trivial⟩) 0 trivial
  rw [ay0 (fun a : KT => X8 a.2)] at this
  obtain ⟨r, h1, h2⟩ := this
  exact ⟨r, h1, h2⟩
 obtain ⟨r, hr, hA⟩ := hA
 refine Fq 18 Tryz.func12 ?_;intro w0 M ρ0 D0
 refine Y91 ?_;refine Y14 ?_;refine Y26 ?_;refine Y37 ?_;refine f7 zG (c8 (fun _ => aE4 t hN)) ?_;refine yO ?_;refine Y12 ?_;refine f7 zG (c8 (fun _ => bX7 (lo := 0) (fV 82) (by rw [List.length_map]; omega) hA)) ?_;refine Y79 ?_;refine Rq ?_;exact m0 (by rw [hr, List.length_map]; rfl)
abbrev kdN : Pu := .sl 0 130 []
abbrev kaN : Pu := .sl 0 136 []
theorem ao9 (ts : List KT) (hl : ts.length < 2^30) (hts : ∀ x ∈ ts, a8 x.2 < 2^30) : FCall Tryz.prog G 14 [.pu (wdP kdN kaN ts)] (.pu (wdP kdN kaN ts)) := by
 refine Fq 68 Tryz.func14 ?_;intro w0 M ρ0 D0
 refine Y67 ?_;refine yR ?_;refine b9 SS 3 ?_;refine b8 [3] ?_;refine ay8 ?_;refine Tri.block (Tri.loopW (σ := Nat) (fun i => ⟨[(1, .ptr 1 [] 26), (2, .ptr 2 [] 26), (3, .ptr 3 [] 26), (11, .pu (.sl 0 130 [])), (12, iv .i64 0), (13, iv .i64 0)], [(1, .var 26 (.pu (wdP kdN kaN ts))), (2, .var 26 (.agg 26 [.nilc, .nilc, .nilc])), (3, .var 26 (.agg 26 [.nilc, .nilc, .nilc]))]⟩) (fun i => 1) 0 ?_ ?_ (fun i => ?_))
 ·exact zW
 ·exact zW
 refine Y41 ?_;refine Cq ?_ ?_
 ·intro h0;exfalso; simp at h0
 ·intro h0
  refine Tri.exit ?_;refine ay8 ?_;refine Tri.block (Tri.loopW (σ := Nat) (fun i => ⟨[(1, .ptr 1 [] 26), (2, .ptr 2 [] 26), (3, .ptr 3 [] 26), (30, .pu (.sl 0 136 [])), (31, iv .i64 0), (32, iv .i64 0)], [(1, .var 26 (.pu (wdP kdN kaN ts))), (2, .var 26 (.agg 26 [.nilc, .nilc, .nilc])), (3, .var 26 (.agg 26 [.nilc, .nilc, .nilc]))]⟩) (fun i => 1) 0 ?_ ?_ (fun i => ?_))
  ·exact zW
  ·exact zW
  refine Y41 ?_;refine Cq ?_ ?_
  ·intro h1;exfalso; simp at h1
  ·intro h1
   refine Tri.exit ?_;refine ay8 ?_;refine Tri.block (Tri.loopW (σ := Nat) (fun i => ⟨[(1, .ptr 1 [] 26), (2, .ptr 2 [] 26), (3, .ptr 3 [] 26), (49, .pu (.sl 0 116 (ts.map ktP))), (50, iv .i64 (ts.map ktP).length), (51, iv .i64 i)], [(2, .var 26 (.agg 26 [.nilc, .nilc, .nilc])), (3, .var 26 (.agg 26 [.nilc, .nilc, .ow 0 116 ((ts.take i).map ktP)]))]⟩) (fun i => ts.length - i) 0 ?_ ?_ (fun i => ?_))
   ·repeat (first | exact .nil | refine .cons rfl (by first | exact .refl | (focus ((repeat constructor); done)) | (exact .var (.agg (.cons .refl (.cons .refl (.cons .nilcOw .nil)))))) ?_)
   ·repeat (first | exact .nil | refine .cons rfl (by first | exact .refl | (focus ((repeat constructor); done)) | (exact .var (.agg (.cons .refl (.cons .refl (.cons .nilcOw .nil)))))) ?_)
   refine Y41 ?_;refine Cq ?_ ?_
   ·intro h2
    have hi : i < ts.length := by simpa using h2
    have hmap : (ts.take (i + 1)).map ktP = (ts.take i).map ktP ++ [ktP ts[i]] := by rw [List.take_succ_eq_append_getElem hi, List.map_append]; rfl
    refine Y86 ?_;refine b5 (g9 SS (h0 := by omega) (hp := ab4 hi)) ?_;refine yL ?_;refine ay6 ?_;refine b8 [9] ?_;refine Y14 ?_;refine Y70 ?_;refine Dq (K4 _ ts[i].2 (Nat.le_refl _) (hts _ (List.getElem_mem hi))) ?_;refine yP ?_;refine yZ ?_;refine I2 3 [2] ?_ ?_
    ·simp; omega
    refine Y94 ?_;refine Y33 ?_
    refine ⟨i + 1, by omega, i9 ?_ ?_⟩
    ·repeat (first | exact SubE.nil | refine SubE.cons rfl (by first | rfl | (rw [b7 (by omega) (by omega)]; rfl) | (rw [hmap]; rfl)) ?_)
    ·repeat (first | exact SubH.nil | refine SubH.cons rfl (by first | rfl | (rw [b7 (by omega) (by omega)]; rfl) | (rw [hmap]; rfl)) ?_)
   ·intro h2
    have hi : ts.length ≤ i := by simpa using h2
    rw [List.take_of_length_le hi];refine Tri.exit ?_;refine aq6 ?_;refine Rc ?_;exact ToPu.imp (by repeat constructor)
end
section
variable {G : List (Nat × TypeId × Pu)}
theorem bX0 (f : FuncId) : FCall Tryz.prog G 100 [.pu kdN, .pu kdN, fV f] (bv true) := by
 refine Fq 32 Tryz.func100 ?_;intro w0 M ρ0 D0
 refine Y71 ?_;refine yC ?_;refine yM ?_;refine Y47 ?_;refine Cq ?_ ?_
 ·intro h0;exfalso; simp at h0
 ·intro h0
  refine Y87 ?_;refine Y43 ?_;refine Tri.block (Tri.loopW (σ := Nat) (fun i => ⟨[(15, .pu kdN), (16, iv .i64 0), (17, iv .i64 0)], []⟩) (fun i => 1) 0 ?_ ?_ (fun i => ?_))
  ·exact zW
  ·exact zW
  refine Y41 ?_;refine Cq ?_ ?_
  ·intro h1;exfalso; simp at h1
  ·intro h1
   refine Y63 ?_;refine Rq ?_;exact ToPu.imp (by repeat constructor)
theorem bX1 (f : FuncId) : FCall Tryz.prog G 103 [.pu kaN, .pu kaN, fV f] (bv true) := by
 refine Fq 32 Tryz.func103 ?_;intro w0 M ρ0 D0
 refine Y71 ?_;refine yC ?_;refine yM ?_;refine Y47 ?_;refine Cq ?_ ?_
 ·intro h0;exfalso; simp at h0
 ·intro h0
  refine Y87 ?_;refine Y43 ?_;refine Tri.block (Tri.loopW (σ := Nat) (fun i => ⟨[(15, .pu kaN), (16, iv .i64 0), (17, iv .i64 0)], []⟩) (fun i => 1) 0 ?_ ?_ (fun i => ?_))
  ·exact zW
  ·exact zW
  refine Y41 ?_;refine Cq ?_ ?_
  ·intro h1;exfalso; simp at h1
  ·intro h1
   refine Y63 ?_;refine Rq ?_;exact ToPu.imp (by repeat constructor)
theorem bW9 (f : FuncId) (he : n9 Tryz.prog f = true) (φ : KT → KT → Bool) (l m : List KT) (hl : l.length < 2^40) (hm : m.length < 2^40) (h : ∀ i (h1 : i < l.length) (h2 : i < m.length), FCall Tryz.prog G f [.pu (ktP l[i]), .pu (ktP m[i])] (bv (φ l[i] m[i]))) :
  FCall Tryz.prog G 106 [.pu (.sl 0 116 (l.map ktP)), .pu (.sl 0 116 (m.map ktP)), fV f] (bv (t6 φ l m)) := by
 refine Fq 32 Tryz.func106 ?_;intro w0 M ρ0 D0
 refine Y71 ?_;refine yC ?_;refine yM ?_;refine Y47 ?_;refine Cq ?_ ?_
 ·intro h0
  have hf : t6 φ l m = false := P2 (by simp at h0; omega)
  refine Y10 ?_;refine Rq ?_;exact m0 hf.symm
 ·intro h0
  have hlm : l.length = m.length := by simp at h0; omega
  refine Y87 ?_;refine Y43 ?_;refine Tri.block (Tri.loopW (σ := {i : Nat // t6 φ (l.take i) (m.take i) = true}) (fun i => ⟨[(1, .pu (.sl 0 116 (m.map ktP))), (2, fV f), (15, .pu (.sl 0 116 (l.map ktP))), (16, iv .i64 (l.map ktP).length), (17, iv .i64 i.1)], []⟩) (fun i => l.length - i.1) ⟨0, by simp [t6]⟩ ?_ ?_ (fun i => ?_))
  ·exact zW
  ·exact zW
  refine Y41 ?_;refine Cq ?_ ?_
  ·intro h1
   have hi : i.1 < l.length := by simpa using h1
   have hi2 : i.1 < m.length := by omega
   have htk := K6 (φ := φ) hi hi2
   rw [i.2, Bool.true_and] at htk
   refine Y20 ?_;refine Y1 ?_;refine b5 (g9 SS (h0 := by omega) (hp := ab4 hi)) ?_;refine yL ?_;refine b9 SS 8 ?_;refine yA ?_;refine yS ?_;refine b8 [8] ?_;refine Y17 ?_;refine b5 (g9 SS (h0 := by omega) (hp := ab4 hi2)) ?_;refine yL ?_;refine ay6 ?_;refine b8 [9] ?_;refine Y1 ?_;refine Y82 ?_;refine b5 (p6 (fun _ => h i.1 hi hi2) (he := he)) ?_;refine Y98 ?_;refine Cq ?_ ?_
   ·intro h2
    have hf : t6 φ l m = false := K8 (i := i.1 + 1) (by rw [htk]; simpa using h2)
    refine Y10 ?_;refine Rq ?_;exact m0 hf.symm
   ·intro h2
    have hnext : t6 φ (l.take (i.1 + 1)) (m.take (i.1 + 1)) = true := by rw [htk]; simpa using h2
    refine Y66 ?_
    refine ⟨⟨i.1 + 1, hnext⟩, by show l.length - (i.1 + 1) < l.length - i.1; omega, i9 ?_ ?_⟩
    ·exact zE
    ·exact zH
  ·intro h1
   have hf : t6 φ l m = true := by
    have := i.2
    rwa [List.take_of_length_le (by simp at h1; omega), List.take_of_length_le (by simp at h1; omega)] at this
   refine Y63 ?_;refine Rq ?_;exact m0 hf.symm
def bs0 (x y : KT) : Bool := x.1 == y.1 && C7 x.2 y.2
theorem cb4 {D : Nat → Nat → Prop} {w : World} {x : KT} {v : List Value} (h : PR Tryz.prog D w (ktP x) v) : x.1.length = 32 := by
 obtain ⟨_, h⟩ := Z7 h
 obtain ⟨⟨_, h⟩, _⟩ := n8 h
 exact R3 h
theorem bT2 (x y : KT) (hx : a8 x.2 < 2^40) (hy : a8 y.2 < 2^40) : FCall Tryz.prog G 107 [.pu (ktP x), .pu (ktP y)] (bv (bs0 x y)) := by
 refine Fq 17 Tryz.func107 ?_;intro w0 M ρ0 D0
 refine Tri.fact (i := 0) rfl (fun D w x h => cb4 h) (fun hr => ?_);refine Tri.fact (i := 1) rfl (fun D w x h => cb4 h) (fun hr' => ?_);refine Y91 ?_;refine Y13 ?_;refine Y5 ?_;refine b5 (D4 SS (h := U6 (hr.trans hr'.symm))) ?_;refine Y39 ?_;refine f7 zG (c8 (fun _ => M7 _ x.2 y.2 (Nat.le_refl _) hx hy)) ?_;refine Y44 ?_;refine Rq ?_;exact VImp.refl _
theorem ax5 {α : Type} {φ : α → α → Bool} : ∀ {l : List α}, (∀ a ∈ l, φ a a = true) → t6 φ l l = true
 | [], _ => rfl
 | a :: l, h => by simp only [t6, h a (by simp), Bool.true_and]; exact ax5 fun x hx => h x (by simp [hx])
def ca7 (ts us : List KT) : Bool := t6 bs0 ts us
theorem aD1 (ts us : List KT) (hl : ts.length < 2^40) (hm : us.length < 2^40) (hts : ∀ x ∈ ts, a8 x.2 < 2^40) (hus : ∀ x ∈ us, a8 x.2 < 2^40) : FCall Tryz.prog G 24 [.pu (wdP kdN kaN ts), .pu (wdP kdN kaN us)] (bv (ca7 ts us)) := by
 refine Fq 24 Tryz.func24 ?_;intro w0 M ρ0 D0
 refine Y91 ?_;refine Y14 ?_;refine Y7 ?_;refine Dq (bX0 101) ?_;refine Y39 ?_;refine f7 zG (c8 (fun _ => bX1 104)) ?_;refine yN ?_;refine Y39 ?_;refine f7 zG (c8 (fun _ => bW9 107 (by kernel_rfl) bs0 ts us hl hm (fun i h1 h2 => bT2 _ _ (hts _ (List.getElem_mem h1)) (hus _ (List.getElem_mem h2))))) ?_;refine Y44 ?_;refine Rq ?_;exact VImp.refl _
end
theorem bx3 (x y : Bool) : M2 Tryz.prog .eql 4 (bv x) (bv y) = some (bv (x == y)) := by
 have hb : Tryz.prog.underlying 4 = some .bool := by kernel_rfl
 simp [M2, hb]
theorem aA8 (l : List Nat) : t6 (fun a b : Nat => (a : Int) == (b : Int)) l l = true := ax5 fun a _ => by simp
theorem ae3 (ts : List KT) : ca7 ts ts = true := ax5 fun x _ => by simp [bs0, D7]
set_option maxHeartbeats 4000000 in
theorem ar6 (a b : Pu) (ts : List KT) (t : Tm) (hl : ts.length < 2^40) (hts : ∀ x ∈ ts, a8 x.2 < 2^40) (hN : a8 t < 2^40) (hrg : rgT t) :
  FCall Tryz.prog gA 3 [.pu (wdP a b ts), .pu (tmc 0 t)] (bv true) := by
 refine Fq 83 Tryz.func3 ?_;intro w0 M ρ0 D0
 refine Y91 ?_;refine Y22 ?_;refine Dq (aK9 a b ts t hl hts hN) ?_;refine Y0 ?_;refine Cq ?_ ?_
 ·intro h0
  refine yR ?_;refine Dq awake_c ?_;refine Y2 ?_;refine Rq ?_;exact VImp.refl _
 ·intro h0
  obtain ⟨hl2, hN2, hts2⟩ := av3 h0
  have hpl := U9 t
  refine Tri.skip ?_;refine Y14 ?_;refine yP ?_;refine Dq (ao9 ts (by omega) (fun x hx => by have := hts2 x hx; omega)) ?_;refine yL ?_;refine Dq (K4 _ t (Nat.le_refl _) (by omega)) ?_;refine b9 SS 5 ?_;refine b9 SS 6 ?_;refine yS ?_;refine yS ?_;refine A5 [5, 6] ?_;refine Y22 ?_;refine Dq (V9 a b ts t hl hts hN) ?_;refine Y8 ?_;refine Y3 ?_;refine yB ?_;refine B5 ?_;refine Y30 ?_;refine Cq ?_ ?_
  ·intro h1
   have h1' : d3 ts t = 0 := by simpa using h1
   have hgd := bi3 (w8 h1').2.2.2 hrg
   have hsn : A7 ts t = ((L7 ts t).1, (L7 ts t).2, 0) := by simp only [A7, L7, if_pos h1']; split <;> rfl
   have hpl2 : (L7 ts t).2.length ≤ a8 t := by unfold L7; split <;> simp; omega
   have hsc := ao2 (G := gA) kdN kaN ts t hts hN
   rw [hsn] at hsc
   refine Y22 ?_;refine Dq (aD2 a b ts hl t hgd (by omega)) ?_;refine Y80 ?_;refine Y22 ?_;refine Dq hsc ?_;refine Y28 ?_;refine yX ?_;refine yA ?_;refine Y61 ?_;refine Y22 ?_;refine Dq (G6 kdN kaN ts t hts hN) ?_;refine yM ?_;refine yI ?_;refine ay7 ?_;refine yN ?_;refine ay7 ?_;refine yN ?_;refine Y69 ?_;refine xM ?_
   first | (refine f7 zG (c8 (fun _ => aj7 (L7 ts t).2 (L7 ts t).2 (by omega) (by omega))) ?_) | (refine f7 zG (c8 (fun _ => aj7 [] [] (by simp) (by simp))) ?_)
   refine yN ?_;refine Y37 ?_;refine f7 zG (c8 (fun _ => ad7 _ t (Nat.le_refl _) hN)) ?_;refine xL ?_;refine f7 zG (c8 (fun _ => ai0 _ t (Nat.le_refl _) hN)) ?_;refine f7 zG (D4 SS (h := bx3 _ _)) ?_;refine yN ?_;refine ay2 ?_;refine f7 zG (c8 (fun _ => M7 _ t t (Nat.le_refl _) hN hN)) ?_;refine yN ?_;refine Y37 ?_;refine Y6 ?_;refine xP ?_;refine f7 zG (c8 (fun _ => aD1 ts ts hl hl hts hts)) ?_;refine yN ?_;refine yM ?_;refine f7 zG (c8 (fun _ => awake_c)) ?_;refine yN ?_;refine yA ?_;refine Y42 ?_;refine Rq ?_;exact m0 (by simp [D7, ae3, aA8, h1'])
  ·intro h1
   have h1' : d3 ts t ≠ 0 := by simpa using h1
   have hsn : A7 ts t = (0, [], d3 ts t) := by simp only [A7, if_neg h1']
   have hsc := ao2 (G := gA) kdN kaN ts t hts hN
   rw [hsn] at hsc
   refine Tri.skip ?_;refine Y22 ?_;refine Dq hsc ?_;refine Y28 ?_;refine yX ?_;refine yA ?_;refine Y61 ?_;refine Y22 ?_;refine Dq (G6 kdN kaN ts t hts hN) ?_;refine yM ?_;refine yI ?_;refine ay7 ?_;refine yN ?_;refine ay7 ?_;refine yN ?_;refine Y69 ?_;refine xM ?_
   first | (refine f7 zG (c8 (fun _ => aj7 (L7 ts t).2 (L7 ts t).2 (by omega) (by omega))) ?_) | (refine f7 zG (c8 (fun _ => aj7 [] [] (by simp) (by simp))) ?_)
   refine yN ?_;refine Y37 ?_;refine f7 zG (c8 (fun _ => ad7 _ t (Nat.le_refl _) hN)) ?_;refine xL ?_;refine f7 zG (c8 (fun _ => ai0 _ t (Nat.le_refl _) hN)) ?_;refine f7 zG (D4 SS (h := bx3 _ _)) ?_;refine yN ?_;refine ay2 ?_;refine f7 zG (c8 (fun _ => M7 _ t t (Nat.le_refl _) hN hN)) ?_;refine yN ?_;refine Y37 ?_;refine Y6 ?_;refine xP ?_;refine f7 zG (c8 (fun _ => aD1 ts ts hl hl hts hts)) ?_;refine yN ?_;refine yM ?_;refine f7 zG (c8 (fun _ => awake_c)) ?_;refine yN ?_;refine yA ?_;refine Y42 ?_;refine Rq ?_;exact m0 (by simp [D7, ae3, aA8, h1'])
section
def el (c : Array Value) (k i : Nat) : List Value := (c.toList.drop (i * k)).take k
theorem ax6 (c : Array Value) (k i j : Nat) : (el c k i)[j]? = if j < k then c[i * k + j]? else none := by
 simp only [el, List.getElem?_take, List.getElem?_drop, Array.getElem?_toList]
theorem aX2 {c : Array Value} {k i : Nat} (h : (i + 1) * k ≤ c.size) : (el c k i).length = k := by
 simp only [el, List.length_take, List.length_drop, Array.length_toList]
 rw [Nat.succ_mul] at h
 omega
theorem bD9 {c : Array Value} {k i0 i : Nat} {v : List Value} (hv : v.length = k) (h : (i0 + 1) * k ≤ c.size) :
  el (c.toList.take (i0 * k) ++ v ++ c.toList.drop (i0 * k + k)).toArray k i = if i = i0 then v else el c k i := by
 rw [Nat.succ_mul] at h
 have hl : (c.toList.take (i0 * k)).length = i0 * k := by simp; omega
 have hL : ∀ p : Nat, (c.toList.take (i0 * k) ++ v ++ c.toList.drop (i0 * k + k))[p]? = if p < i0 * k then c[p]? else if p < i0 * k + k then v[p - i0 * k]? else c[p]? := fun p => by
  rw [List.append_assoc]
  split
  ·rename_i hp
   rw [List.getElem?_append_left (by omega), List.getElem?_take, if_pos hp, Array.getElem?_toList]
  ·rename_i hp
   rw [List.getElem?_append_right (by omega), hl]
   split
   ·rw [List.getElem?_append_left (by omega)]
   ·rw [List.getElem?_append_right (by omega), List.getElem?_drop, Array.getElem?_toList, hv]
    congr 1
    omega
 refine List.ext_getElem? fun j => ?_
 rw [ax6]
 simp only [List.getElem?_toArray, hL]
 by_cases hj : j < k
 ·rw [if_pos hj]
  rcases Nat.lt_trichotomy i i0 with hi | rfl | hi
  ·have h1 : (i + 1) * k ≤ i0 * k := Nat.mul_le_mul_right k hi
   rw [Nat.succ_mul] at h1
   rw [if_pos (by omega), if_neg (by omega), ax6, if_pos hj]
  ·rw [if_neg (by omega), if_pos (by omega), if_pos rfl]
   congr 1
   omega
  ·have h1 : (i0 + 1) * k ≤ i * k := Nat.mul_le_mul_right k hi
   rw [Nat.succ_mul] at h1
   rw [if_neg (by omega), if_neg (by omega), if_neg (by omega), ax6, if_pos hj]
 ·rw [if_neg hj]
  split
  ·exact (List.getElem?_eq_none (by omega)).symm
  ·rw [ax6, if_neg hj]
section
variable (m hi : Nat) (w : World)
def V5 (E : TypeId) (k : Nat) (S : List Value → Prop) (x : Value) : Prop :=
 (∃ a cap, x = .slice a 0 cap) ∨ ∃ b n cap c, x = .slice (some ⟨b, 0, none⟩) n cap ∧ n < 1099511627776 ∧ m ≤ b ∧ b < hi ∧ w.heap[b]? = some (.cells c E (0, 0)) ∧ n * k ≤ c.size ∧ ∀ i, i < n → S (el c k i)
def ar8 : Nat → List Value → Prop
 | 0, _ => False
 | n + 1, l => ∃ pre s, l = pre ++ [s] ∧ pre.length = 34 ∧ V5 m hi w 104 35 (ar8 n) s
def bH9 (n : Nat) (S : List Value → Prop) (l : List Value) : Prop := ∃ lp lb, l = lp ++ lb ∧ lp.length = 35 ∧ ar8 m hi w n lp ∧ S lb
def P7 : Nat → List Value → Prop
 | 0, _ => False
 | n + 1, l => ∃ pre s1 s2, l = pre ++ [s1, s2] ∧ pre.length = 34 ∧ V5 m hi w 32 36 (P7 n) s1 ∧ V5 m hi w 106 71 (bH9 m hi w n (P7 n)) s2
end
def aY8 (l : List Value) : Prop := ∃ pre a cap, l = pre ++ [.slice a 0 cap] ∧ pre.length = 34
def aY7 (l : List Value) : Prop := ∃ pre a1 c1 a2 c2, l = pre ++ [.slice a1 0 c1, .slice a2 0 c2] ∧ pre.length = 34
def bF3 (l : List Value) : Prop := ∃ lp lb, l = lp ++ lb ∧ aY8 lp ∧ aY7 lb
def Wore1 (E : TypeId) (k : Nat) (Z : List Value → Prop) (m hi : Nat) (w w' : World) : Prop := ∀ (b : Nat) (c : Array Value), m ≤ b → b < hi → w.heap[b]? = some (.cells c E (0, 0)) →
 ∃ c', w'.heap[b]? = some (.cells c' E (0, 0)) ∧ c'.size = c.size ∧ ∀ i, (i + 1) * k ≤ c.size → el c' k i = el c k i ∨ Z (el c' k i)
structure Wore (m hi : Nat) (w w' : World) : Prop where
 pt : Wore1 104 35 aY8 m hi w w'
 tm : Wore1 32 36 aY7 m hi w w'
 cs : Wore1 106 71 bF3 m hi w w'
section
variable {E : TypeId} {k : Nat} {Z : List Value → Prop} {m hi : Nat} {w w' w2 : World}
theorem Wore1.same (h : ∀ b : Nat, m ≤ b → b < hi → w'.heap[b]? = w.heap[b]?) : Wore1 E k Z m hi w w' := fun b c h1 h2 hb => ⟨c, (h b h1 h2).trans hb, rfl, fun _ _ => .inl rfl⟩
theorem Wore1.trans (h : Wore1 E k Z m hi w w') (h' : Wore1 E k Z m hi w' w2) : Wore1 E k Z m hi w w2 := fun b c h1 h2 hb => by
 obtain ⟨c1, e1, e2, e3⟩ := h b c h1 h2 hb
 obtain ⟨c2, f1, f2, f3⟩ := h' b c1 h1 h2 e1
 refine ⟨c2, f1, f2.trans e2, fun i hik => ?_⟩
 rcases f3 i (by omega) with g | g
 ·rcases e3 i hik with g' | g'
  ·exact .inl (g.trans g')
  ·exact .inr (g ▸ g')
 ·exact .inr g
theorem Wore.same (h : ∀ b : Nat, m ≤ b → b < hi → w'.heap[b]? = w.heap[b]?) : Wore m hi w w' := ⟨.same h, .same h, .same h⟩
theorem Wore.refl : Wore m hi w w := .same fun _ _ _ => rfl
theorem Wore.trans (h : Wore m hi w w') (h' : Wore m hi w' w2) : Wore m hi w w2 := ⟨h.pt.trans h'.pt, h.tm.trans h'.tm, h.cs.trans h'.cs⟩
theorem Wore.grew (g : Grew w w') (hh : hi ≤ w.heap.size) : Wore m hi w w' := .same fun b _ h2 => g.block b (by omega)
theorem Wore1.set {b i0 : Nat} {c : Array Value} {E' : TypeId} {k' : Nat} {v : List Value} {Z' : List Value → Prop} (hb : w.heap[b]? = some (.cells c E (0, 0))) (hv : v.length = k) (hf : (i0 + 1) * k ≤ c.size) (hz : Z v) (hE : E' = E → k' = k) (hZ : E' = E → ∀ l, Z l → Z' l) :
  Wore1 E' k' Z' m hi w (w.setRow b (c.toList.take (i0 * k) ++ v ++ c.toList.drop (i0 * k + k)).toArray) := fun b' c1 h1 h2 hb' => by
 by_cases e : b' = b
 ·subst e
  rw [hb] at hb'
  simp at hb'
  obtain ⟨rfl, rfl⟩ := hb'
  obtain rfl := hE rfl
  refine ⟨_, setRow_heap w b' c _ E (0, 0) hb, ?_, fun i hi' => ?_⟩
  ·rw [Nat.succ_mul] at hf
   simp
   omega
  ·rw [bD9 hv hf]
   split
   ·exact .inr (hZ rfl _ hz)
   ·exact .inl rfl
 ·exact ⟨c1, (J8 w b _ e).trans hb', rfl, fun _ _ => .inl rfl⟩
theorem Q1 {S S' : List Value → Prop} (W : Wore1 E k Z m hi w w') (h1 : ∀ l, S l → S' l) (h2 : ∀ l l0, S l0 → Z l → S' l) {x : Value} (h : V5 m hi w E k S x) : V5 m hi w' E k S' x := by
 rcases h with h | ⟨b, n, cap, c, rfl, e0, e1, e2, e3, e4, e5⟩
 ·exact .inl h
 ·obtain ⟨c', f1, f2, f3⟩ := W b c e1 e2 e3
  refine .inr ⟨b, n, cap, c', rfl, e0, e1, e2, f1, by omega, fun i hin => ?_⟩
  rcases f3 i (Nat.le_trans (Nat.mul_le_mul_right k hin) e4) with g | g
  ·rw [g]; exact h1 _ (e5 i hin)
  ·exact h2 _ _ (e5 i hin) g
theorem D6 {S : List Value → Prop} {x : Value} (h : V5 m hi w E k S x) : ∃ a n cap, x = .slice a n cap ∧ n < 1099511627776 ∧ ∀ i, i < n → ∃ b c, a = some ⟨b, 0, none⟩ ∧ m ≤ b ∧ b < hi ∧ w.heap[b]? = some (.cells c E (0, 0)) ∧ (i + 1) * k ≤ c.size ∧ S (el c k i) := by
 rcases h with ⟨a, cap, rfl⟩ | ⟨b, n, cap, c, rfl, e0, e1, e2, e3, e4, e5⟩
 ·exact ⟨a, 0, cap, rfl, by omega, fun i h => by omega⟩
 ·exact ⟨_, n, cap, rfl, e0, fun i h => ⟨b, c, rfl, e1, e2, e3, Nat.le_trans (Nat.mul_le_mul_right k h) e4, e5 i h⟩⟩
theorem ae1 (W : Wore m hi w w') : ∀ (n : Nat) (l : List Value), ar8 m hi w n l → ar8 m hi w' n l
 | 0, _, h => h
 | n + 1, l, ⟨pre, s, e1, e2, e3⟩ => ⟨pre, s, e1, e2, Q1 W.pt (ae1 W n) (fun l l0 h0 hz => by
   cases n with
   | zero => exact h0.elim
   | succ n =>
    obtain ⟨pre, a, cap, rfl, hp⟩ := hz
    exact ⟨pre, _, rfl, hp, .inl ⟨a, cap, rfl⟩⟩) e3⟩
theorem an6 {n : Nat} {l l0 : List Value} (h0 : ar8 m hi w n l0) (hz : aY8 l) : ar8 m hi w' n l := by
 cases n with
 | zero => exact h0.elim
 | succ n =>
  obtain ⟨pre, a, cap, rfl, hp⟩ := hz
  exact ⟨pre, _, rfl, hp, .inl ⟨a, cap, rfl⟩⟩
theorem ad2 {n : Nat} {l l0 : List Value} (h0 : P7 m hi w n l0) (hz : aY7 l) : P7 m hi w' n l := by
 cases n with
 | zero => exact h0.elim
 | succ n =>
  obtain ⟨pre, a, cap, a2, cap2, rfl, hp⟩ := hz
  exact ⟨pre, _, _, rfl, hp, .inl ⟨a, cap, rfl⟩, .inl ⟨a2, cap2, rfl⟩⟩
theorem N1 (W : Wore m hi w w') : ∀ (n : Nat) (l : List Value), P7 m hi w n l → P7 m hi w' n l
 | 0, _, h => h
 | n + 1, l, ⟨pre, s1, s2, e1, e2, e3, e4⟩ => ⟨pre, s1, s2, e1, e2, Q1 W.tm (N1 W n) (fun l l0 h0 hz => ad2 h0 hz) e3,
   Q1 W.cs (fun l ⟨lp, lb, f1, f2, f3, f4⟩ => ⟨lp, lb, f1, f2, ae1 W n lp f3, N1 W n lb f4⟩) (fun l l0 ⟨lp, lb, f1, f2, f3, f4⟩ ⟨zp, zb, g1, g2, g3⟩ => ⟨zp, zb, g1, by
    obtain ⟨pre, a, cap, rfl, hp⟩ := g2
    simp [hp], an6 f3 g2, ad2 f4 g3⟩) e4⟩
end
end
section
section
variable {D : Nat → Nat → Prop} {w : World} {m hi : Nat}
theorem bL2 {k : Nat} {E : TypeId} : ∀ {ps : List Pu} {x : List Value}, PRs Tryz.prog D w (List.replicate ps.length (k, E)) ps x → x.length = ps.length * k ∧ ∀ (i : Nat) p, ps[i]? = some p → PR Tryz.prog D w p ((x.drop (i * k)).take k)
 | [], _, .nil => ⟨by simp, fun i p h => by simp at h⟩
 | p :: ps, _, .cons (x := x) (y := y) hp hs _ h => by
  obtain ⟨h1, h2⟩ := bL2 (ps := ps) h
  refine ⟨by simp [h1, hs, Nat.succ_mul]; omega, fun i q hq => ?_⟩
  cases i with
  | zero =>
   simp at hq
   subst hq
   simp [← hs]
   exact hp
  | succ i =>
   simp at hq
   have := h2 i q hq
   rw [Nat.succ_mul, List.drop_append, List.drop_eq_nil_of_le (by omega), List.nil_append, hs, Nat.add_sub_cancel];exact this
theorem ah9 {E : TypeId} {k : Nat} {S : List Value → Prop} (hm : 0 < m) (hh : w.heap.size ≤ hi) (hk : Tryz.prog.cellsOf E = k) {ps : List Pu} {s : Value} (h : PR Tryz.prog D w (.sl m E ps) [s]) (hln : ps.length < 1099511627776) (hS : ∀ (i : Nat) p l, ps[i]? = some p → PR Tryz.prog D w p l → S l) : V5 m hi w E k S s := by
 subst hk
 cases h with
 | sl0 => exact .inl ⟨_, _, rfl⟩
 | @sl _ _ _ b o cap x hn hcap h hx hlo =>
  rcases hlo with rfl | ⟨h1, rfl, c, h2⟩
  ·omega
  obtain ⟨g1, g2⟩ := bL2 h
  have hc : ∀ j v, x[j]? = some v → c[j]? = some v := fun j v hj => by
   have := (hx j v hj).1
   rw [Nat.zero_add, m9 h2] at this
   exact this
  have hsz : ps.length * Tryz.prog.cellsOf E ≤ c.size := by
   refine Nat.le_of_not_lt fun hlt => ?_
   have hj : c.size < x.length := by omega
   have := hc c.size x[c.size] (List.getElem?_eq_getElem hj)
   simp at this
  refine .inr ⟨b, ps.length, cap, c, rfl, hln, h1, Nat.lt_of_lt_of_le (y8 h2) hh, h2, hsz, fun i hin => ?_⟩
  have := hS i ps[i] _ (List.getElem?_eq_getElem hin) (g2 i ps[i] (List.getElem?_eq_getElem hin))
  have e : el c (Tryz.prog.cellsOf E) i = (x.drop (i * Tryz.prog.cellsOf E)).take (Tryz.prog.cellsOf E) := by
   have hle : (i + 1) * Tryz.prog.cellsOf E ≤ ps.length * Tryz.prog.cellsOf E := Nat.mul_le_mul_right _ hin
   rw [Nat.succ_mul] at hle
   refine List.ext_getElem? fun j => ?_
   rw [ax6, List.getElem?_take, List.getElem?_drop]
   split
   ·have hj : i * Tryz.prog.cellsOf E + j < x.length := by omega
    rw [List.getElem?_eq_getElem hj];exact hc _ _ (List.getElem?_eq_getElem hj)
   ·rfl
  rw [e];exact this
theorem bl6 {E : TypeId} {lo : Nat} {ps : List Pu} {l : List Value} (h : PR Tryz.prog D w (.sl lo E ps) l) : ∃ s, l = [s] := by
 cases h with
 | sl0 => exact ⟨_, rfl⟩
 | sl => exact ⟨_, rfl⟩
theorem cg7 : l7 Tryz.prog 104 = some [(1, 3), (1, 3), (32, 28), (1, 102)] := by kernel_rfl
theorem aX8 : l7 Tryz.prog 32 = some [(1, 3), (1, 3), (32, 28), (1, 29), (1, 30)] := by kernel_rfl
theorem cg8 : l7 Tryz.prog 106 = some [(35, 104), (36, 32)] := by kernel_rfl
theorem bH8 (hm : 0 < m) (hh : w.heap.size ≤ hi) : ∀ (N : Nat) (p : Pat) (l : List Value), l9 p ≤ N → N < 1099511627776 → PR Tryz.prog D w (v7 m p) l → ar8 m hi w N l := by
 intro N
 induction N with
 | zero => intro p l h; cases p; simp [l9] at h
 | succ N ih =>
  rintro ⟨k, n, r, ks⟩ l hN hb h
  simp only [l9] at hN
  unfold v7 at h
  cases h with
  | agg hc h =>
   rw [cg7] at hc
   simp only [Option.some.injEq] at hc
   subst hc
   cases h with | @cons _ _ _ _ _ x0 _ _ s0 _ h =>
   cases h with | @cons _ _ _ _ _ x1 _ _ s1 _ h =>
   cases h with | @cons _ _ _ _ _ x2 _ _ s2 _ h =>
   cases h with | @cons _ _ _ _ _ x3 _ h3 s3 _ h =>
   cases h
   obtain ⟨s, rfl⟩ := bl6 h3
   refine ⟨x0 ++ x1 ++ x2, s, by simp, by simp [s0, s1, s2], ah9 hm hh (by kernel_rfl) h3 (by rw [f5]; have := m4 ks; omega) fun i p l hi hp => ?_⟩
   rw [t9, List.getElem?_map] at hi
   cases hk : ks[i]? with
   | none => simp [hk] at hi
   | some q =>
    simp [hk] at hi
    subst hi
    obtain ⟨hlt, e⟩ := List.getElem?_eq_some_iff.1 hk
    have := q9 hlt
    rw [e] at this
    exact ih q l (by omega) (by omega) hp
theorem ah8 (hm : 0 < m) (hh : w.heap.size ≤ hi) : ∀ (N : Nat) (t : Tm) (l : List Value), a8 t ≤ N → N < 1099511627776 → PR Tryz.prog D w (tmc m t) l → P7 m hi w N l := by
 intro N
 induction N with
 | zero => intro p l h; cases p; simp [a8] at h
 | succ N ih =>
  rintro ⟨k, n, r, ks, cs⟩ l hN hb h
  simp only [a8] at hN
  unfold tmc at h
  cases h with
  | agg hc h =>
   rw [aX8] at hc
   simp only [Option.some.injEq] at hc
   subst hc
   cases h with | @cons _ _ _ _ _ x0 _ _ s0 _ h =>
   cases h with | @cons _ _ _ _ _ x1 _ _ s1 _ h =>
   cases h with | @cons _ _ _ _ _ x2 _ _ s2 _ h =>
   cases h with | @cons _ _ _ _ _ x3 _ h3 s3 _ h =>
   cases h with | @cons _ _ _ _ _ x4 _ h4 s4 _ h =>
   cases h
   obtain ⟨s, rfl⟩ := bl6 h3
   obtain ⟨s', rfl⟩ := bl6 h4
   refine ⟨x0 ++ x1 ++ x2, s, s', by simp, by simp [s0, s1, s2], ah9 hm hh (by kernel_rfl) h3 (by rw [a9]; have := f9 ks; omega) fun i p l hi hp => ?_, ah9 hm hh (by kernel_rfl) h4 (by rw [j3]; have := m5 cs; omega) fun i p l hi hp => ?_⟩
   ·rw [l6, List.getElem?_map] at hi
    cases hk : ks[i]? with
    | none => simp [hk] at hi
    | some q =>
     simp [hk] at hi
     subst hi
     obtain ⟨hlt, e⟩ := List.getElem?_eq_some_iff.1 hk
     have := D5 hlt
     rw [e] at this
     exact ih q l (by omega) (by omega) hp
   ·rw [A9, List.getElem?_map] at hi
    cases hk : cs[i]? with
    | none => simp [hk] at hi
    | some q =>
     simp [hk] at hi
     subst hi
     obtain ⟨hlt, e⟩ := List.getElem?_eq_some_iff.1 hk
     have := E4 hlt
     rw [e] at this
     obtain ⟨p, t⟩ := q
     simp only [p9] at this
     unfold J3 at hp
     cases hp with
     | agg hc hp =>
      rw [cg8] at hc
      simp only [Option.some.injEq] at hc
      subst hc
      cases hp with | @cons _ _ _ _ _ lp _ hp s0 _ h =>
      cases h with | @cons _ _ _ _ _ lb _ hq s1 _ h =>
      cases h
      exact ⟨lp, lb, by simp, s0, bH8 hm hh N p lp (by omega) (by omega) hp, ih t lb (by omega) (by omega) hq⟩
end
end
def bM1 : Value := .slice none 0 0
def cc2 (k : Int) : List Value := [.int .i64 k, .int .i64 0] ++ List.replicate 32 (.int .u8 0) ++ [bM1]
def cc1 (k : Int) : List Value := [.int .i64 k, .int .i64 0] ++ List.replicate 32 (.int .u8 0) ++ [bM1, bM1]
def zerC : List Value := cc2 0 ++ cc1 0
theorem bY6 (w : World) : (Instr.build 104 #[(0, .int .i64 98)]).run Tryz.prog w = .ok (.agg (cc2 98).toArray) w := by kernel_rfl
theorem bY5 (w : World) : (Instr.build 32 #[(0, .int .i64 98)]).run Tryz.prog w = .ok (.agg (cc1 98).toArray) w := by kernel_rfl
theorem bY7 (w : World) : (Instr.build 106 #[]).run Tryz.prog w = .ok (.agg zerC.toArray) w := by kernel_rfl
theorem aO4 (k : Int) : aY8 (cc2 k) := ⟨[.int .i64 k, .int .i64 0] ++ List.replicate 32 (.int .u8 0), none, 0, rfl, by simp⟩
theorem aO3 (k : Int) : aY7 (cc1 k) := ⟨[.int .i64 k, .int .i64 0] ++ List.replicate 32 (.int .u8 0), none, 0, none, 0, rfl, by simp⟩
theorem bx9 : bF3 zerC := ⟨_, _, rfl, aO4 0, aO3 0⟩
theorem au2 {w : World} {b k i : Nat} {c : Array Value} {E : TypeId} (h : w.heap[b]? = some (.cells c E (0, 0))) : ∀ j v, (el c k i)[j]? = some v → w.cell? ⟨b, i * k + j, none⟩ = some v := fun j v hj => by
 rw [ax6] at hj
 rw [m9 h]
 split at hj
 ·exact hj
 ·cases hj
theorem Wore.tmSet {m hi : Nat} {w : World} {b i : Nat} {c : Array Value} {v : List Value} (hb : w.heap[b]? = some (.cells c 32 (0, 0))) (hv : v.length = 36) (hf : (i + 1) * 36 ≤ c.size) (hz : aY7 v) : Wore m hi w (w.setRow b (c.toList.take (i * 36) ++ v ++ c.toList.drop (i * 36 + 36)).toArray) :=
 ⟨Wore1.set hb hv hf hz (fun e => by cases e) (fun e => by cases e), Wore1.set hb hv hf hz (fun _ => rfl) (fun _ _ h => h), Wore1.set hb hv hf hz (fun e => by cases e) (fun e => by cases e)⟩
theorem Wore.csSet {m hi : Nat} {w : World} {b i : Nat} {c : Array Value} {v : List Value} (hb : w.heap[b]? = some (.cells c 106 (0, 0))) (hv : v.length = 71) (hf : (i + 1) * 71 ≤ c.size) (hz : bF3 v) : Wore m hi w (w.setRow b (c.toList.take (i * 71) ++ v ++ c.toList.drop (i * 71 + 71)).toArray) :=
 ⟨Wore1.set hb hv hf hz (fun e => by cases e) (fun e => by cases e), Wore1.set hb hv hf hz (fun e => by cases e) (fun e => by cases e), Wore1.set hb hv hf hz (fun _ => rfl) (fun _ _ h => h)⟩
theorem Wore.ptSet {m hi : Nat} {w : World} {b i : Nat} {c : Array Value} {v : List Value} (hb : w.heap[b]? = some (.cells c 104 (0, 0))) (hv : v.length = 35) (hf : (i + 1) * 35 ≤ c.size) (hz : aY8 v) : Wore m hi w (w.setRow b (c.toList.take (i * 35) ++ v ++ c.toList.drop (i * 35 + 35)).toArray) :=
 ⟨Wore1.set hb hv hf hz (fun _ => rfl) (fun _ _ h => h), Wore1.set hb hv hf hz (fun e => by cases e) (fun e => by cases e), Wore1.set hb hv hf hz (fun e => by cases e) (fun e => by cases e)⟩
theorem aG9 {m hi n : Nat} {w w' : World} {x : Value} (W : Wore m hi w w') (h : V5 m hi w 32 36 (P7 m hi w n) x) : V5 m hi w' 32 36 (P7 m hi w' n) x := Q1 W.tm (N1 W n) (fun _ _ h0 hz => ad2 h0 hz) h
theorem bH7 {m hi n : Nat} {w w' : World} {x : Value} (W : Wore m hi w w') (h : V5 m hi w 104 35 (ar8 m hi w n) x) : V5 m hi w' 104 35 (ar8 m hi w' n) x := Q1 W.pt (ae1 W n) (fun _ _ h0 hz => an6 h0 hz) h
theorem ba6 {m hi n : Nat} {w w' : World} {x : Value} (W : Wore m hi w w') (h : V5 m hi w 106 71 (bH9 m hi w n (P7 m hi w n)) x) : V5 m hi w' 106 71 (bH9 m hi w' n (P7 m hi w' n)) x :=
 Q1 W.cs (fun _ ⟨lp, lb, f1, f2, f3, f4⟩ => ⟨lp, lb, f1, f2, ae1 W n lp f3, N1 W n lb f4⟩) (fun _ _ ⟨_, _, _, _, f3, f4⟩ ⟨zp, zb, g1, g2, g3⟩ => ⟨zp, zb, g1, by
    obtain ⟨pre, a, cap, rfl, hp⟩ := g2
    simp [hp], an6 f3 g2, ad2 f4 g3⟩) h
theorem ar7 : ∀ (n m hi : Nat) (w : World) (l : List Value), P7 m hi w n l → hi ≤ w.heap.size → Calls Tryz.prog 51 #[.agg l.toArray] w fun e w' => (∃ v, e = .returned v) ∧ Keep m hi w w' ∧ Wore m hi w w' := by
 intro n
 induction n with
 | zero => intro m hi w l h; exact h.elim
 | succ n ih =>
 rintro m hi w L ⟨pre, s1, s2, hL, hp, hs1, hs2⟩ hh
 obtain ⟨a1, n1, cap1, rfl, hn1, _⟩ := D6 hs1
 obtain ⟨a2, n2, cap2, rfl, hn2, _⟩ := D6 hs2
 obtain ⟨B, hB⟩ : ∃ B, B = w.heap.size := ⟨_, rfl⟩
 obtain ⟨w1, hw1⟩ : ∃ w1, w1 = w.alloc (.cells L.toArray 32) := ⟨_, rfl⟩
 have gr : Grew w w1 := by rw [hw1]; exact Grew.alloc w _
 have W1 : Wore m hi w w1 := Wore.grew gr hh
 have hsz1 : B < w1.heap.size := by rw [hw1, hB]; simp
 have hB1 : w1.heap[B]? = some (.cells L.toArray 32 (0, 0)) := by rw [hw1, hB]; exact alloc_heap_new w _
 have cells : ∀ {w2 : World}, Keep m hi w1 w2 → w2.cell? ⟨B, 0 + 34, none⟩ = some (.slice a1 n1 cap1) ∧ w2.cell? ⟨B, 0 + 35, none⟩ = some (.slice a2 n2 cap2) := fun {w2} k => by
  have hb := (k.block B hsz1 (by omega)).trans hB1
  rw [m9 hb, m9 hb]
  simp [hL, List.getElem?_append, hp]
 refine aO1 64 Tryz.func51 rfl rfl [(0, .agg L.toArray)] (fun i v hv => ?_) ?_
 ·rw [m1] at hv
  split at hv
  ·rename_i e; subst e; simpa using hv
  ·cases hv
 repeat refine RTri.seq ?_
 refine RTri.region ?_;refine bK6 rfl (by decide) ?_;refine RL.nil ?_;rw [show Value.cells (Value.agg L.toArray) = L.toArray from rfl, ← hw1, ← hB]
 have K0 := Keep.refl m hi w1
 repeat refine RTri.seq ?_
 refine RTri.region ?_;refine I3 tbl (off := 34) rfl (by kernel_rfl) (by decide) ?_;refine R4 tbl (cells K0).1 rfl (by kernel_rfl) (by decide) ?_;refine bc5 (E := 32) rfl (by kernel_rfl) (by decide) ?_;refine A1 rfl (by decide) ?_;refine RL.nil ?_
 repeat refine RTri.seq ?_
 refine RTri.block ?_;refine RTri.loop (σ := Nat) (fun i env w2 => i ≤ n1 ∧ subE [(8, .int .i64 (i : Nat)), (7, .int .i64 n1), (1, .pointer (some ⟨B, 0, none⟩))] env ∧ Keep m hi w1 w2 ∧ Wore m hi w1 w2) (fun i => n1 - i) 0 ⟨Nat.zero_le _, ⟨rfl, rfl, rfl, trivial⟩, K0, Wore.refl⟩ ?_
 rintro i env w2 ⟨hi1, henv, Ki, Wi⟩
 refine RTri.less ?_ henv.get;clear henv env
 repeat refine RTri.seq ?_
 refine RTri.region ?_;refine bK5 tbl rfl rfl (by decide) ?_;refine RL.nil ?_
 repeat refine RTri.seq ?_
 refine RTri.cond rfl (fun hb => RTri.skip ?_) (fun hb => RTri.exit ?_)
 ·have hi' : i < n1 := of_decide_eq_true hb
  obtain ⟨a, n', cap', e, _, hv⟩ := D6 (aG9 (W1.trans Wi) hs1)
  simp only [Value.slice.injEq] at e
  obtain ⟨rfl, rfl, rfl⟩ := e
  obtain ⟨b, c, rfl, h1, h2, h3, h4, h5⟩ := hv i hi'
  repeat refine RTri.seq ?_
  refine RTri.block ?_
  repeat refine RTri.seq ?_
  refine RTri.region ?_;refine A1 rfl (by decide) ?_;refine W0 rfl (by decide) ?_;refine RL.nil ?_
  repeat refine RTri.seq ?_
  refine RTri.region ?_;refine I3 tbl (off := 34) rfl (by kernel_rfl) (by decide) ?_;refine R4 tbl (cells Ki).1 rfl (by kernel_rfl) (by decide) ?_;refine A1 rfl (by decide) ?_;refine U0 tbl (E := 32) (sz := 36) hi' rfl rfl (by kernel_rfl) (by kernel_rfl) (by decide) ?_;refine al3 tbl (au2 h3) ((aX2 h4).trans (by kernel_rfl)) rfl (by kernel_rfl) (by decide) ?_;refine RL.call rfl rfl rfl (by decide) #[.agg (el c 36 i).toArray] (fun _ ha => av2 (by kernel_rfl) rfl rfl rfl ha) ?_
  refine (ih m hi w2 _ h5 (Nat.le_trans hh (Nat.le_trans gr.size Ki.size))).mono fun e w3 ⟨⟨v, he⟩, K3, W3⟩ => ⟨v, he, ?_⟩
  have Kj := Ki.trans K3
  obtain ⟨c3, g3, g4, _⟩ := W3.tm b c h1 h2 h3
  refine RL.nil ?_;refine RTri.region ?_;refine I3 tbl (off := 34) rfl (by kernel_rfl) (by decide) ?_;refine R4 tbl (cells Kj).1 rfl (by kernel_rfl) (by decide) ?_;refine A1 rfl (by decide) ?_;refine aV6 bY5 (by simp [evR]) (by decide) ?_;refine U0 tbl (E := 32) (sz := 36) hi' rfl rfl (by kernel_rfl) (by kernel_rfl) (by decide) ?_;refine aV5 tbl (sz := 36) g3 (by omega) rfl rfl rfl rfl (by kernel_rfl) ?_;refine RL.nil ?_;refine RTri.region ?_;refine bc6 tbl rfl (by omega) (by decide) ?_;refine A1 rfl (by decide) ?_;refine RL.nil ?_;exact ⟨i + 1, by omega, by omega, ⟨rfl, rfl, rfl, trivial⟩, Kj.trans (Keep.setRow g3 h1 h2), (Wi.trans W3).trans (Wore.tmSet g3 rfl (by omega) (aO3 98))⟩
 have WI := W1.trans Wi
 clear hb hi1
 repeat refine RTri.seq ?_
 refine RTri.region ?_;refine I3 tbl (off := 35) rfl (by kernel_rfl) (by decide) ?_;refine R4 tbl (cells Ki).2 rfl (by kernel_rfl) (by decide) ?_;refine bc5 (E := 106) rfl (by kernel_rfl) (by decide) ?_;refine A1 rfl (by decide) ?_;refine RL.nil ?_
 repeat refine RTri.seq ?_
 refine RTri.block ?_;refine RTri.loop (σ := Nat) (fun i env w2 => i ≤ n2 ∧ subE [(26, .int .i64 (i : Nat)), (25, .int .i64 n2), (1, .pointer (some ⟨B, 0, none⟩))] env ∧ Keep m hi w1 w2 ∧ Wore m hi w w2) (fun i => n2 - i) 0 ⟨Nat.zero_le _, ⟨rfl, rfl, rfl, trivial⟩, Ki, WI⟩ ?_;clear Ki Wi WI w2 i
 rintro i env w2 ⟨hi1, henv, Ki, Wi⟩
 refine RTri.less ?_ henv.get;clear henv env
 repeat refine RTri.seq ?_
 refine RTri.region ?_;refine bK5 tbl rfl rfl (by decide) ?_;refine RL.nil ?_
 repeat refine RTri.seq ?_
 refine RTri.cond rfl (fun hb => RTri.skip ?_) (fun hb => RTri.exit ?_)
 ·have hi' : i < n2 := of_decide_eq_true hb
  obtain ⟨a, n', cap', e, _, hv⟩ := D6 (ba6 Wi hs2)
  simp only [Value.slice.injEq] at e
  obtain ⟨rfl, rfl, rfl⟩ := e
  obtain ⟨b, c, rfl, h1, h2, h3, h4, lp, lb, h5, h6, _, h7⟩ := hv i hi'
  have hbody : ∀ j v, lb[j]? = some v → w2.cell? ⟨b, i * 71 + 35 + j, none⟩ = some v := fun j v hj => by
   have := au2 h3 (35 + j) v (by rw [h5, List.getElem?_append_right (by omega), h6]; simpa using hj)
   simpa [Nat.add_assoc] using this
  have hlb : lb.length = 36 := by
   have := aX2 h4
   rw [h5, List.length_append] at this
   omega
  repeat refine RTri.seq ?_
  refine RTri.block ?_
  repeat refine RTri.seq ?_
  refine RTri.region ?_;refine A1 rfl (by decide) ?_;refine W0 rfl (by decide) ?_;refine RL.nil ?_
  repeat refine RTri.seq ?_
  refine RTri.region ?_;refine I3 tbl (off := 35) rfl (by kernel_rfl) (by decide) ?_;refine R4 tbl (cells Ki).2 rfl (by kernel_rfl) (by decide) ?_;refine A1 rfl (by decide) ?_;refine U0 tbl (E := 106) (sz := 71) hi' rfl rfl (by kernel_rfl) (by kernel_rfl) (by decide) ?_;refine I3 tbl (off := 35) rfl (by kernel_rfl) (by decide) ?_;refine al3 tbl hbody (hlb.trans (by kernel_rfl)) rfl (by kernel_rfl) (by decide) ?_;refine RL.call rfl rfl rfl (by decide) #[.agg lb.toArray] (fun _ ha => av2 (by kernel_rfl) rfl rfl rfl ha) ?_
  refine (ih m hi w2 _ h7 (Nat.le_trans hh (Nat.le_trans gr.size Ki.size))).mono fun e w3 ⟨⟨v, he⟩, K3, W3⟩ => ⟨v, he, ?_⟩
  have Kj := Ki.trans K3
  have Wj := Wi.trans W3
  clear h3 h4 h5 h6 h7 hbody hlb hv
  obtain ⟨_, _, _, e, _, hv⟩ := D6 (ba6 Wj hs2)
  simp only [Value.slice.injEq] at e
  obtain ⟨rfl, rfl, rfl⟩ := e
  obtain ⟨b', c, e, h1, h2, h3, h4, lp, lb, h5, h6, h7, _⟩ := hv i hi'
  simp only [Option.some.injEq, Addr.mk.injEq, and_true] at e
  subst e
  cases n with
  | zero => exact h7.elim
  | succ n' =>
  obtain ⟨pre', s, rfl, hp', hs3⟩ := h7
  obtain ⟨a3, n3, cap3, rfl, hn3, _⟩ := D6 hs3
  have hkid : ∀ {w5 : World}, w5.heap[b]? = some (.cells c 106 (0, 0)) → w5.cell? ⟨b, i * 71 + 0 + 34, none⟩ = some (.slice a3 n3 cap3) := fun {w5} h => by
   have := au2 h (k := 71) (i := i) 34 (.slice a3 n3 cap3) (by rw [h5, List.getElem?_append_left (by omega), List.getElem?_append_right (by omega), hp']; rfl)
   simpa [Nat.add_assoc] using this
  refine RL.nil ?_
  repeat refine RTri.seq ?_
  refine RTri.region ?_;refine I3 tbl (off := 35) rfl (by kernel_rfl) (by decide) ?_;refine R4 tbl (cells Kj).2 rfl (by kernel_rfl) (by decide) ?_;refine A1 rfl (by decide) ?_;refine U0 tbl (E := 106) (sz := 71) hi' rfl rfl (by kernel_rfl) (by kernel_rfl) (by decide) ?_;refine I3 tbl (off := 0) rfl (by kernel_rfl) (by decide) ?_;refine I3 tbl (off := 34) rfl (by kernel_rfl) (by decide) ?_;refine R4 tbl (hkid h3) rfl (by kernel_rfl) (by decide) ?_;refine bc5 (E := 104) rfl (by kernel_rfl) (by decide) ?_;refine A1 rfl (by decide) ?_;refine RL.nil ?_
  repeat refine RTri.seq ?_
  refine RTri.block ?_;refine RTri.loop (σ := Nat) (fun k env w5 => k ≤ n3 ∧ subE [(44, .int .i64 (k : Nat)), (43, .int .i64 n3), (26, .int .i64 (i : Nat)), (25, .int .i64 n2), (3, .int .i64 (i : Nat)), (1, .pointer (some ⟨B, 0, none⟩))] env ∧ Keep m hi w1 w5 ∧ Wore m hi w3 w5 ∧ w5.heap[b]? = some (.cells c 106 (0, 0))) (fun k => n3 - k) 0 ⟨Nat.zero_le _, ⟨rfl, rfl, rfl, rfl, rfl, rfl, trivial⟩, Kj, Wore.refl, h3⟩ ?_
  rintro k env w5 ⟨hk1, henv, K5, W5, hb5⟩
  refine RTri.less ?_ henv.get;clear henv env
  repeat refine RTri.seq ?_
  refine RTri.region ?_;refine bK5 tbl rfl rfl (by decide) ?_;refine RL.nil ?_
  repeat refine RTri.seq ?_
  refine RTri.cond rfl (fun hb => RTri.skip ?_) (fun hb => RTri.exit ?_)
  ·have hk' : k < n3 := of_decide_eq_true hb
   obtain ⟨_, _, _, e, _, hv⟩ := D6 (bH7 W5 hs3)
   simp only [Value.slice.injEq] at e
   obtain ⟨rfl, rfl, rfl⟩ := e
   obtain ⟨b6, c6, rfl, f1, f2, f3, f4, _⟩ := hv k hk'
   have hne : b ≠ b6 := fun e => by
    subst e
    rw [hb5] at f3
    cases f3
   repeat refine RTri.seq ?_
   refine RTri.block ?_
   repeat refine RTri.seq ?_
   refine RTri.region ?_;refine A1 rfl (by decide) ?_;refine W0 rfl (by decide) ?_;refine RL.nil ?_
   repeat refine RTri.seq ?_
   refine RTri.region ?_;refine I3 tbl (off := 35) rfl (by kernel_rfl) (by decide) ?_;refine R4 tbl (cells K5).2 rfl (by kernel_rfl) (by decide) ?_;refine A1 rfl (by decide) ?_;refine U0 tbl (E := 106) (sz := 71) hi' rfl rfl (by kernel_rfl) (by kernel_rfl) (by decide) ?_;refine I3 tbl (off := 0) rfl (by kernel_rfl) (by decide) ?_;refine I3 tbl (off := 34) rfl (by kernel_rfl) (by decide) ?_;refine R4 tbl (hkid hb5) rfl (by kernel_rfl) (by decide) ?_;refine A1 rfl (by decide) ?_;refine aV6 bY6 (by simp [evR]) (by decide) ?_;refine U0 tbl (E := 104) (sz := 35) hk' rfl rfl (by kernel_rfl) (by kernel_rfl) (by decide) ?_;refine aV5 tbl (sz := 35) f3 f4 rfl rfl rfl rfl (by kernel_rfl) ?_;refine RL.nil ?_;refine RTri.region ?_;refine bc6 tbl rfl (by omega) (by decide) ?_;refine A1 rfl (by decide) ?_;refine RL.nil ?_
   exact ⟨k + 1, by omega, by omega, ⟨rfl, rfl, rfl, rfl, rfl, rfl, trivial⟩, K5.trans (Keep.setRow f3 f1 f2), W5.trans (Wore.ptSet f3 rfl f4 (aO4 98)), (J8 w5 b6 _ hne).trans hb5⟩
  ·refine RTri.region ?_
   refine I3 tbl (off := 35) rfl (by kernel_rfl) (by decide) ?_;refine R4 tbl (cells K5).2 rfl (by kernel_rfl) (by decide) ?_;refine A1 rfl (by decide) ?_;refine aV6 bY7 (by simp) (by decide) ?_;refine U0 tbl (E := 106) (sz := 71) hi' rfl rfl (by kernel_rfl) (by kernel_rfl) (by decide) ?_;refine aV5 tbl (sz := 71) hb5 h4 rfl rfl rfl rfl (by kernel_rfl) ?_;refine RL.nil ?_;refine RTri.region ?_;refine bc6 tbl rfl (by omega) (by decide) ?_;refine A1 rfl (by decide) ?_;refine RL.nil ?_;exact ⟨i + 1, by omega, by omega, ⟨rfl, rfl, rfl, trivial⟩, K5.trans (Keep.setRow hb5 h1 h2), (Wj.trans W5).trans (Wore.csSet hb5 rfl h4 bx9)⟩
 ·have hr : Tryz.f51.results = #[] := rfl
  exact ⟨.inl rfl, fun a ha => ⟨.tuple #[], by simp [results, hr], ⟨_, rfl⟩, (Keep.of_grew gr).trans Ki, Wi⟩⟩
theorem bW7 (p : Pat) (t : Tm) (h : X8 (.mk 9 0 Z32 [t] [.mk p (.mk 2 0 Z32 [] [])]) = false) : l9 p + a8 t ≤ 400 := by
 have := af6 h
 simp [a8, d7, p9, f6] at this
 omega
theorem bi7 (x y : Bool) : M2 Tryz.prog .neq 4 (bv x) (bv y) = some (bv (x != y)) := by
 have hb : Tryz.prog.underlying 4 = some .bool := by kernel_rfl
 simp [M2, hb]
theorem bl5 (p : Pat) (t : Tm) (hp : l9 p < 2^30) (hN : a8 t < 2^30) :
  FCall Tryz.prog gA 70 [.pu (v7 0 p), .pu (tmc 0 t)] (bv true) := by
 refine Fq 67 Tryz.func70 ?_;intro w0 M ρ0 D0
 refine Y91 ?_;refine Y22 ?_;refine Dq (F8 0) ?_;refine Dq (bq1 p (.mk 2 0 Z32 [] [])) ?_;refine yZ ?_;refine Dq (bR8 t [.mk p (.mk 2 0 Z32 [] [])]) ?_;refine Dq (aE4 (.mk 9 0 Z32 [t] [.mk p (.mk 2 0 Z32 [] [])]) (by simp [a8, d7, p9, f6]; omega)) ?_;refine Y42 ?_;refine Cq ?_ ?_
 ·intro h0
  refine yR ?_;refine Dq awake_c ?_;refine Y2 ?_;refine Rq ?_;exact VImp.refl _
 ·intro h0
  have hsz := bW7 p t h0
  refine Y72 ?_;refine Dq (ag7 _ p (Nat.le_refl _) (by omega)) ?_;refine yL ?_;refine Dq (K4 _ t (Nat.le_refl _) (by omega)) ?_;refine b9 SS 5 ?_;refine b9 SS 6 ?_;refine yS ?_;refine yS ?_;refine A5 [5, 6] ?_;refine Y22 ?_;refine Dq (bs7 _ p (Nat.le_refl _) t (by omega)) ?_;refine Y80 ?_
  have hln := ap7 p t
  have hfz := at9 p t
  refine Tri.less (t := ⟨[(2, .ptr 2 [] 104), (3, .ptr 3 [] 32), (5, .ptr 5 [] 104), (6, .ptr 6 [] 32), (7, .pu (.sl 0 32 (l8 0 (p5 p t).1))), (8, bv (p5 p t).2)],
   [(2, .var 104 (.pu (v7 0 p))), (3, .var 32 (.pu (tmc 0 t))), (5, .var 104 (.pu (v7 0 p))), (6, .var 32 (.pu (tmc 0 t)))]⟩) (i9 zE zH) ?_
  refine Tri.two [2, 3, 5, 6] rfl rfl (by simp) fun w1 M1 ρ1 D1 K2 hpos hseq hspoil => ?_
  generalize hfm : p5 p t = W at *
  obtain ⟨W1, W2⟩ := W
  refine hseq _ _ _ ?_;refine Y22 ?_;refine b5 (z9 (fun m n h => aL6 h _) (fun _ => by have := bO8 (G := gA) _ p (Nat.le_refl _) t (by omega); rw [hfm] at this; exact this)) ?_;refine Y80 ?_
  refine ⟨rfl, ?_⟩
  refine hseq _ _ _ ?_;refine Y17 ?_;refine b5 (D4 SS (h := bi7 _ _)) ?_;refine Y69 ?_;refine xM ?_;refine f7 zG (c8 (fun _ => aH2 W1 W1 (by simp at hln; omega) (by simp at hln; omega) (fun i h1 h2 => M7 _ _ _ (Nat.le_refl _) (by have := hfz _ (List.getElem_mem h1); omega) (by have := hfz _ (List.getElem_mem h1); omega)))) ?_;refine aq3 ?_;refine B5 ?_;refine Tri.cond rfl (fun h1 => ?_) (fun h1 => Tri.skip ?_)
  ·simp [aa5] at h1
  refine ⟨rfl, ?_⟩
  refine hspoil _ _ _ [(2, .ptr 2 [] 104), (3, .ptr 3 [] 32), (5, .ptr 5 [] 104), (6, .ptr 6 [] 32)] rfl ?_ (fun C a w hs => ?_) ?_
  ·exact (i9 (e' := [(2, .ptr 2 [] 104), (3, .ptr 3 [] 32), (5, .ptr 5 [] 104), (6, .ptr 6 [] 32)]) (h' := []) zE zH).env
  ·obtain ⟨x9, h9, hv9⟩ := hs.env 9 _ rfl
   obtain ⟨x2, h2, _⟩ := hs.env 2 _ rfl
   obtain ⟨x3, h3, _⟩ := hs.env 3 _ rfl
   obtain ⟨x5, h5, _⟩ := hs.env 5 _ rfl
   obtain ⟨x6, h6, _⟩ := hs.env 6 _ rfl
   have hm : w1.heap.size ≤ w.heap.size := hs.framed.size
   have hsoft : V5 w1.heap.size w.heap.size w 32 36 (P7 w1.heap.size w.heap.size w (a8 t)) x9 := ah9 hpos (Nat.le_refl _) (by kernel_rfl) (aU2 hv9) (by rw [a9]; simp at hln ⊢; omega) fun i q l hi hq => by
    rw [l6, List.getElem?_map] at hi
    cases hk : W1[i]? with
    | none => simp [hk] at hi
    | some u =>
     simp [hk] at hi
     subst hi;exact ah8 hpos (Nat.le_refl _) (a8 t) u l (hfz u (List.mem_of_getElem? hk)) (by omega) hq
   obtain ⟨a1, n1, cap1, rfl, hn1, _⟩ := D6 hsoft
   refine RTri.use (n := 67) (fun e env' w' => e = .normal ∧ subE [(2, x2), (3, x3), (5, x5), (6, x6)] env' ∧ Keep w1.heap.size w.heap.size w w') ?_ (Kn.of (l := [(9, .slice a1 n1 cap1), (2, x2), (3, x3), (5, x5), (6, x6)]) hs.size (fun x hx => ?_)) ?_
   ·repeat refine RTri.seq ?_
    refine RTri.region ?_;refine A1 rfl (by decide) ?_;refine bc5 (E := 32) rfl (by kernel_rfl) (by decide) ?_;refine A1 rfl (by decide) ?_;refine RL.nil ?_
    repeat refine RTri.seq ?_
    refine RTri.block ?_;refine RTri.loop (σ := Nat) (fun i env w2 => i ≤ n1 ∧ subE [(47, .int .i64 (i : Nat)), (46, .int .i64 n1), (9, .slice a1 n1 cap1), (2, x2), (3, x3), (5, x5), (6, x6)] env ∧ Keep w1.heap.size w.heap.size w w2 ∧ Wore w1.heap.size w.heap.size w w2) (fun i => n1 - i) 0 ⟨Nat.zero_le _, ⟨rfl, rfl, rfl, rfl, rfl, rfl, rfl, trivial⟩, Keep.refl _ _ _, Wore.refl⟩ ?_
    rintro i env w2 ⟨hi1, henv, Ki, Wi⟩
    refine RTri.less ?_ henv.get;clear henv env
    repeat refine RTri.seq ?_
    refine RTri.region ?_;refine bK5 tbl rfl rfl (by decide) ?_;refine RL.nil ?_
    repeat refine RTri.seq ?_
    refine RTri.cond rfl (fun hb => RTri.skip ?_) (fun hb => RTri.exit ?_)
    ·have hi' : i < n1 := of_decide_eq_true hb
     obtain ⟨_, _, _, e, _, hv⟩ := D6 (aG9 Wi hsoft)
     simp only [Value.slice.injEq] at e
     obtain ⟨rfl, rfl, rfl⟩ := e
     obtain ⟨b, c, rfl, g1, g2, g3, g4, g5⟩ := hv i hi'
     repeat refine RTri.seq ?_
     refine RTri.block ?_
     repeat refine RTri.seq ?_
     refine RTri.region ?_;refine A1 rfl (by decide) ?_;refine W0 rfl (by decide) ?_;refine RL.nil ?_
     repeat refine RTri.seq ?_
     refine RTri.region ?_;refine A1 rfl (by decide) ?_;refine A1 rfl (by decide) ?_;refine U0 tbl (E := 32) (sz := 36) hi' rfl rfl (by kernel_rfl) (by kernel_rfl) (by decide) ?_;refine al3 tbl (au2 g3) ((aX2 g4).trans (by kernel_rfl)) rfl (by kernel_rfl) (by decide) ?_;refine RL.call rfl rfl rfl (by decide) #[.agg (el c 36 i).toArray] (fun _ ha => av2 (by kernel_rfl) rfl rfl rfl ha) ?_
     refine (ar7 _ w1.heap.size w.heap.size w2 _ g5 Ki.size).mono fun e w3 ⟨⟨v, he⟩, K3, W3⟩ => ⟨v, he, ?_⟩
     refine RL.nil ?_
     repeat refine RTri.seq ?_
     refine RTri.region ?_;refine bc6 tbl rfl (by omega) (by decide) ?_;refine A1 rfl (by decide) ?_;refine RL.nil ?_;exact ⟨i + 1, by omega, by omega, ⟨rfl, rfl, rfl, rfl, rfl, rfl, rfl, trivial⟩, Ki.trans K3, Wi.trans W3⟩
    ·exact ⟨rfl, ⟨rfl, rfl, rfl, rfl, trivial⟩, Ki⟩
   ·simp only [List.mem_cons, List.not_mem_nil, or_false] at hx
    rcases hx with rfl | rfl | rfl | rfl | rfl <;> assumption
   ·rintro e a' w' env' hk ⟨he, hsub, hkeep⟩
    refine ⟨he, ⟨_, hkeep⟩, hk.size, fun i v hv => ?_, hk.defers⟩
    have hmem := y9 hv
    simp only [List.mem_cons, List.not_mem_nil, or_false, Prod.mk.injEq] at hmem
    obtain ⟨s2, s3, s5, s6, _⟩ := hsub
    rcases hmem with ⟨rfl, _⟩ | ⟨rfl, _⟩ | ⟨rfl, _⟩ | ⟨rfl, _⟩
    ·exact (hk.env _ _ s2).trans h2.symm
    ·exact (hk.env _ _ s3).trans h3.symm
    ·exact (hk.env _ _ s5).trans h5.symm
    ·exact (hk.env _ _ s6).trans h6.symm
  ·refine yR ?_
   refine Y82 ?_;refine Dq (M7 _ t t (Nat.le_refl _) (by omega) (by omega)) ?_;refine ay2 ?_;refine f7 zG (c8 (fun _ => br9 _ p p (Nat.le_refl _) (by omega) (by omega))) ?_;refine yN ?_;refine yM ?_;refine f7 zG (c8 (fun _ => awake_c)) ?_;refine Y44 ?_;refine Rq ?_;exact m0 (by simp [D7, ao4])
section
variable {G : List (Nat × TypeId × Pu)}
theorem bJ7 : ∀ (N : Nat) (t : Tm), a8 t ≤ N → N < 2^30 → ∀ (d b : Int), gdT d t → 0 ≤ d → d + 2 * a8 t ≤ 2^42 →
  FCall Tryz.prog G 246 [.pu (tmc 0 t), iv .i64 d, iv .i64 b, iv .i64 0] (.pu (tmc 0 t)) := by
 intro N
 induction N with
 | zero => intro t h; have := m8 t; omega
 | succ N ih =>
 intro t hp hN d by' hg hd0 hd1
 obtain ⟨k, n, r, ks, cs⟩ := t
 simp only [a8] at hp hd1
 have hlen := f9 ks
 have hlenc := m5 cs
 have hK := fun j x hx => at7 hg.2.2.2.2.1 (j := j) (x := x) hx
 have hC := aE5 hg.2.2.2.2.2
 refine Fq 100 Tryz.func246 ?_;intro w0 M ρ0 D0
 refine yR ?_;refine p7 SS 4 ?_;refine b9 SS 8 ?_;refine b8 [4, 8] ?_;refine Y13 ?_;refine Y70 ?_;refine yP ?_;refine ay6 ?_;refine b8 [9] ?_;refine Y55 ?_;refine Y19 ?_;refine Y19 ?_;refine Y97 ?_;refine Cq ?_ ?_
 ·intro h0;exfalso
  have hv := hg.2.2.2.1
  simp at h0
  have := hv h0.1
  rw [b7 (by omega) (by omega)] at h0
  omega
 ·intro h0
  refine Y45 ?_;refine Tri.block (Tri.loopW (σ := Nat) (fun i => ⟨[(1, iv .i64 d), (2, iv .i64 by'), (3, iv .i64 0), (4, .ptr 4 [] 32), (8, .ptr 8 [] 32), (9, .ptr 9 [] 32), (10, iv .i64 i)], [(4, .var 32 (.pu (tmc 0 (.mk k n r ks cs)))), (8, .var 32 (.agg 32 [iv .i64 0, iv .i64 0, .pu (l4 Z32), .nilc, .nilc])), (9, .var 32 (.agg 32 [iv .i64 k, iv .i64 n, .pu (l4 r), .ow 0 32 (l8 0 (ks.take i)), .ow 0 106 []]))]⟩) (fun i => ks.length - i) 0 ?_ ?_ (fun i => ?_))
  ·exact zk5
  ·exact zk5
  refine Y93 ?_;refine Cq ?_ ?_
  ·intro h1
   have hi : i < ks.length := by rw [a9] at h1; simpa using h1
   have hmo := ae9 k i
   have hsz := o8 (List.getElem_mem hi)
   have hgi := hK i ks[i] (List.getElem?_eq_getElem hi)
   rw [Nat.zero_add] at hgi
   have hts : l8 0 (ks.take (i + 1)) = l8 0 (ks.take i) ++ [tmc 0 ks[i]] := by
    rw [l6, l6, List.take_succ_eq_append_getElem hi, List.map_append]; rfl
   refine Y20 ?_;refine Y14 ?_;refine Y68 ?_;refine b5 (g9 SS (h0 := by omega) (hp := q7 hi)) ?_;refine yL ?_;refine yM ?_;refine Y5 ?_;refine yM ?_;refine Dq (aV1 k i) ?_;refine yI ?_;refine Y48 ?_;refine Dq (ih ks[i] (by omega) (by omega) (d + j8 k i) by' hgi (by omega) (by omega)) ?_;refine yZ ?_;refine I2 9 [3] ?_ ?_
   ·simp [l6]; omega
   refine Y94 ?_;refine Y40 ?_
   refine ⟨i + 1, by omega, i9 ?_ ?_⟩
   ·repeat (first | exact SubE.nil | refine SubE.cons rfl (by first | rfl | (rw [b7 (by omega) (by omega)]; rfl) | (rw [hts]; rfl)) ?_)
   ·repeat (first | exact SubH.nil | refine SubH.cons rfl (by first | rfl | (rw [b7 (by omega) (by omega)]; rfl) | (rw [hts]; rfl)) ?_)
  ·intro h1
   have hi : ks.length ≤ i := by rw [a9] at h1; simpa using h1
   rw [List.take_of_length_le hi];refine Y63 ?_;refine Tri.block (Tri.loopW (σ := Nat) (fun i => ⟨[(1, iv .i64 d), (2, iv .i64 by'), (3, iv .i64 0), (4, .ptr 4 [] 32), (8, .ptr 8 [] 32), (9, .ptr 9 [] 32), (11, iv .i64 i)], [(4, .var 32 (.pu (tmc 0 (.mk k n r ks cs)))), (8, .var 32 (.agg 32 [iv .i64 0, iv .i64 0, .pu (l4 Z32), .nilc, .nilc])), (9, .var 32 (.agg 32 [iv .i64 k, iv .i64 n, .pu (l4 r), .ow 0 32 (l8 0 ks), .ow 0 106 (z8 0 (cs.take i))]))]⟩) (fun i => cs.length - i) 0 ?_ ?_ (fun i => ?_))
   ·exact zW
   ·exact zW
   refine Y93 ?_;refine Cq ?_ ?_
   ·intro h2
    have hi : i < cs.length := by rw [j3] at h2; simpa using h2
    have hsz := B0 (List.getElem_mem hi)
    have hget := G2 (lo := 0) hi
    have hgi := (hC cs[i] (List.getElem_mem hi)).2
    have hcs0 : z8 0 (cs.take (i + 1)) = z8 0 (cs.take i) ++ [J3 0 cs[i]] := by
     rw [A9, A9, List.take_succ_eq_append_getElem hi, List.map_append]; rfl
    generalize hci : cs[i] = ci at hget hsz hgi hcs0
    obtain ⟨q, b⟩ := ci
    simp only [p9] at hsz
    simp only [csP, csT] at hgi
    have hbb := y5 q
    refine Y20 ?_;refine Y14 ?_;refine Y68 ?_;refine Xq hget ?_;refine Y5 ?_;refine Dq (S7 _ q (Nat.le_refl _) (by omega)) ?_;refine Y68 ?_;refine Xq hget ?_;refine Y5 ?_;refine yM ?_;refine Y68 ?_;refine Xq hget ?_;refine Y5 ?_;refine Dq (aI3 _ q (Nat.le_refl _) (by omega)) ?_;refine yI ?_;refine Y48 ?_;refine Dq (ih b (by omega) (by omega) (d + m7 q) by' hgi (by omega) (by omega)) ?_;refine yP ?_;refine yZ ?_;refine I2 9 [4] ?_ ?_
    ·simp [A9]; omega
    refine Y94 ?_;refine Y40 ?_
    refine ⟨i + 1, by omega, i9 ?_ ?_⟩
    ·repeat (first | exact SubE.nil | refine SubE.cons rfl (by first | rfl | (rw [b7 (by omega) (by omega)]; rfl) | (rw [hcs0]; rfl)) ?_)
    ·repeat (first | exact SubH.nil | refine SubH.cons rfl (by first | rfl | (rw [b7 (by omega) (by omega)]; rfl) | (rw [hcs0]; rfl)) ?_)
   ·intro h2
    have hi : cs.length ≤ i := by rw [j3] at h2; simpa using h2
    rw [List.take_of_length_le hi];refine Tri.exit ?_;refine aq6 ?_;refine Rc ?_;exact ToPu.imp (by repeat constructor)
set_option maxHeartbeats 1000000 in
theorem ce2 (u : Tm) (hu : gdT 0 u) (hus : a8 u < 2^30) : ∀ (N : Nat) (t : Tm), a8 t ≤ N → N < 2^30 → ∀ (d e : Int), gdT e t → 0 ≤ d → d + 2 * a8 t ≤ 2^42 → e + 2 * a8 t ≤ 2^43 →
  FCall Tryz.prog G 232 [.pu (tmc 0 t), iv .i64 d, iv .i64 0, .pu (tmc 0 u)] (.pu (tmc 0 (o5 [u] d t))) := by
 intro N
 induction N with
 | zero => intro t h; have := m8 t; omega
 | succ N ih =>
 intro t hp hN d e hg hd0 hd1 he
 obtain ⟨k, n, r, ks, cs⟩ := t
 simp only [a8] at hp hd1 he
 have hlen := f9 ks
 have hlenc := m5 cs
 have hK := fun j x hx => at7 hg.2.2.2.2.1 (j := j) (x := x) hx
 have hC := aE5 hg.2.2.2.2.2
 have hv := hg.2.2.2.1
 obtain ⟨out, hout⟩ : ∃ out, out = G5 [u] d k 0 ks := ⟨_, rfl⟩
 have houtl : out.length = ks.length := by rw [hout, O6]
 refine Fq 113 Tryz.func232 ?_;intro w0 M ρ0 D0
 refine yR ?_;refine p7 SS 4 ?_;refine p7 SS 7 ?_;refine b9 SS 8 ?_;refine b8 [4, 7, 8] ?_;refine Y55 ?_;refine xM ?_;refine Y19 ?_;refine Y53 ?_;refine Y0 ?_;refine Cq ?_ ?_
 ·intro h0
  have hkn : k = 1 ∧ n = d := by simp at h0; obtain ⟨a, b⟩ := h0; rw [b7 (by omega) (by omega)] at b; exact ⟨a, by omega⟩
  have hput : o5 [u] d (.mk k n r ks cs) = u := by
   have hw : IntKind.wrap .i64 (n - d) = 0 := by rw [hkn.2, Int.sub_self]; rfl
   simp only [o5, hw]
   rw [dif_pos ⟨hkn.1, by omega, by simp⟩, dif_pos (by simp)]
   rfl
  refine Y65 ?_;refine Dq (bJ7 _ u (Nat.le_refl _) hus 0 d hu (by omega) (by omega)) ?_;refine Y23 ?_;refine Rc ?_;exact VImp.of_eq (by rw [hput])
 ·intro h0
  have h0' : ¬ (k = 1 ∧ n = d) := fun hkn => by
   obtain ⟨a, b⟩ := hkn
   subst a b
   simp at h0
   rw [b7 (by omega) (by omega)] at h0
   omega
  refine Tri.skip ?_;refine Y13 ?_;refine Y70 ?_;refine yP ?_;refine ay6 ?_;refine b8 [9] ?_;refine Y55 ?_;refine xM ?_;refine Y19 ?_;refine Y53 ?_;refine Y0 ?_;refine Tri.cutW (σ := {n' : Int // o5 [u] d (.mk k n r ks cs) = .mk k n' r (G5 [u] d k 0 ks) (E8 [u] d cs)}) (fun n' => ⟨[(1, iv .i64 d), (2, iv .i64 0), (4, .ptr 4 [] 32), (7, .ptr 7 [] 32), (8, .ptr 8 [] 32), (9, .ptr 9 [] 32)], [(4, .var 32 (.pu (tmc 0 (.mk k n r ks cs)))), (7, .var 32 (.pu (tmc 0 u))), (8, .var 32 (.agg 32 [iv .i64 0, iv .i64 0, .pu (l4 Z32), .nilc, .nilc])), (9, .var 32 (.agg 32 [iv .i64 k, iv .i64 n'.1, .pu (l4 r), .nilc, .nilc]))]⟩) ?_ (fun n' => ?_)
  ·skip
   refine tQ ?_;refine Cq ?_ ?_
   ·intro h1
    have hkn : k = 1 ∧ d < n := by simp at h1; obtain ⟨a, b⟩ := h1; have := hv a; rw [b7 (by omega) (by omega)] at b; exact ⟨a, by omega⟩
    have hput : o5 [u] d (.mk k n r ks cs) = .mk k (IntKind.wrap .i64 (n - 1)) r (G5 [u] d k 0 ks) (E8 [u] d cs) := by
     have := hv hkn.1
     have hw : IntKind.wrap .i64 (n - d) = n - d := b7 (by omega) (by omega)
     simp only [o5, hw]
     rw [dif_pos ⟨hkn.1, by omega, by simp⟩, dif_neg (by simp; omega)]
     rfl
    refine Y24 ?_;refine Y83 ?_
    refine ⟨⟨_, hput⟩, ?_, ?_⟩
    ·exact zW
    ·exact zW
   ·intro h1
    have hput : o5 [u] d (.mk k n r ks cs) = .mk k n r (G5 [u] d k 0 ks) (E8 [u] d cs) := by
     simp only [o5]
     rw [dif_neg fun hh => by
      obtain ⟨a, b, _⟩ := hh
      have := hv a
      rw [b7 (by omega) (by omega)] at b
      subst a
      simp at h1
      rw [b7 (by omega) (by omega)] at h1
      omega]
    refine Tri.skip ?_
    refine ⟨⟨_, hput⟩, ?_, ?_⟩
    ·exact zW
    ·exact zW
  ·skip
   obtain ⟨n', hput⟩ := n'
   refine Y10 ?_;refine Tri.block (Tri.loopW (σ := Nat) (fun i => ⟨[(1, iv .i64 d), (2, iv .i64 0), (4, .ptr 4 [] 32), (7, .ptr 7 [] 32), (8, .ptr 8 [] 32), (9, .ptr 9 [] 32), (10, iv .i64 i)], [(4, .var 32 (.pu (tmc 0 (.mk k n r ks cs)))), (7, .var 32 (.pu (tmc 0 u))), (8, .var 32 (.agg 32 [iv .i64 0, iv .i64 0, .pu (l4 Z32), .nilc, .nilc])), (9, .var 32 (.agg 32 [iv .i64 k, iv .i64 n', .pu (l4 r), .ow 0 32 (l8 0 (out.take i)), .ow 0 106 []]))]⟩) (fun i => ks.length - i) 0 ?_ ?_ (fun i => ?_))
   ·exact zk5
   ·exact zk5
   refine Y93 ?_;refine Cq ?_ ?_
   ·intro h2
    have hi : i < ks.length := by rw [a9] at h2; simpa using h2
    have hmo := ae9 k i
    have hsz := o8 (List.getElem_mem hi)
    have hgi := hK i ks[i] (List.getElem?_eq_getElem hi)
    rw [Nat.zero_add] at hgi
    have hel : out[i]'(by omega) = o5 [u] (d + j8 k i) ks[i] := by
     have := aJ0 [u] d k ks 0 i hi
     rw [Nat.zero_add] at this
     rw [← this]; congr 1
    have hts : l8 0 (out.take (i + 1)) = l8 0 (out.take i) ++ [tmc 0 (o5 [u] (d + j8 k i) ks[i])] := by
     rw [l6, l6, List.take_succ_eq_append_getElem (by omega), List.map_append, hel]; rfl
    refine Y20 ?_;refine Y14 ?_;refine Y68 ?_;refine b5 (g9 SS (h0 := by omega) (hp := q7 hi)) ?_;refine yL ?_;refine yM ?_;refine Y5 ?_;refine yM ?_;refine Dq (aV1 k i) ?_;refine yI ?_;refine yM ?_;refine yL ?_;refine Dq (ih ks[i] (by omega) (by omega) (d + j8 k i) (e + j8 k i) hgi (by omega) (by omega) (by omega)) ?_;refine yZ ?_;refine I2 9 [3] ?_ ?_
    ·simp [l6]; omega
    refine Y94 ?_;refine Y40 ?_
    refine ⟨i + 1, by omega, i9 ?_ ?_⟩
    ·repeat (first | exact SubE.nil | refine SubE.cons rfl (by first | rfl | (rw [b7 (by omega) (by omega)]; rfl) | (rw [hts]; rfl)) ?_)
    ·repeat (first | exact SubH.nil | refine SubH.cons rfl (by first | rfl | (rw [b7 (by omega) (by omega)]; rfl) | (rw [hts]; rfl)) ?_)
   ·intro h2
    have hi : ks.length ≤ i := by rw [a9] at h2; simpa using h2
    rw [List.take_of_length_le (show out.length ≤ i by omega)];refine Y63 ?_;refine Tri.block (Tri.loopW (σ := Nat) (fun i => ⟨[(1, iv .i64 d), (2, iv .i64 0), (4, .ptr 4 [] 32), (7, .ptr 7 [] 32), (8, .ptr 8 [] 32), (9, .ptr 9 [] 32), (11, iv .i64 i)], [(4, .var 32 (.pu (tmc 0 (.mk k n r ks cs)))), (7, .var 32 (.pu (tmc 0 u))), (8, .var 32 (.agg 32 [iv .i64 0, iv .i64 0, .pu (l4 Z32), .nilc, .nilc])), (9, .var 32 (.agg 32 [iv .i64 k, iv .i64 n', .pu (l4 r), .ow 0 32 (l8 0 out), .ow 0 106 (z8 0 ((E8 [u] d cs).take i))]))]⟩) (fun i => cs.length - i) 0 ?_ ?_ (fun i => ?_))
    ·exact zW
    ·exact zW
    refine Y93 ?_;refine Cq ?_ ?_
    ·intro h3
     have hi : i < cs.length := by rw [j3] at h3; simpa using h3
     have hsz := B0 (List.getElem_mem hi)
     have hget := G2 (lo := 0) hi
     have hgi := (hC cs[i] (List.getElem_mem hi)).2
     have hpc := aJ1 [u] d cs i hi
     generalize hci : cs[i] = ci at hget hsz hgi hpc
     obtain ⟨q, b⟩ := ci
     simp only [p9] at hsz
     simp only [csP, csT] at hgi
     have hbb := y5 q
     have hcs0 : z8 0 ((E8 [u] d cs).take (i + 1)) = z8 0 ((E8 [u] d cs).take i) ++ [J3 0 (.mk q (o5 [u] (d + m7 q) b))] := by
      rw [A9, A9, List.take_succ_eq_append_getElem (by rw [R9]; exact hi), List.map_append, hpc]; rfl
     refine Y20 ?_;refine Y14 ?_;refine Y68 ?_;refine Xq hget ?_;refine Y5 ?_;refine Dq (S7 _ q (Nat.le_refl _) (by omega)) ?_;refine Y68 ?_;refine Xq hget ?_;refine Y5 ?_;refine yM ?_;refine Y68 ?_;refine Xq hget ?_;refine Y5 ?_;refine Dq (aI3 _ q (Nat.le_refl _) (by omega)) ?_;refine yI ?_;refine yM ?_;refine yL ?_;refine Dq (ih b (by omega) (by omega) (d + m7 q) (e + m7 q) hgi (by omega) (by omega) (by omega)) ?_;refine yP ?_;refine yZ ?_;refine I2 9 [4] ?_ ?_
     ·simp [A9, R9]; omega
     refine Y94 ?_;refine Y40 ?_
     refine ⟨i + 1, by omega, i9 ?_ ?_⟩
     ·repeat (first | exact SubE.nil | refine SubE.cons rfl (by first | rfl | (rw [b7 (by omega) (by omega)]; rfl) | (rw [hcs0]; rfl)) ?_)
     ·repeat (first | exact SubH.nil | refine SubH.cons rfl (by first | rfl | (rw [b7 (by omega) (by omega)]; rfl) | (rw [hcs0]; rfl)) ?_)
    ·intro h3
     have hi : cs.length ≤ i := by rw [j3] at h3; simpa using h3
     rw [List.take_of_length_le (by rw [R9]; exact hi)];refine Tri.exit ?_;refine aq6 ?_;refine Rc ?_;exact (by rw [hput, ← hout]; exact ToPu.imp (by repeat constructor))
theorem as1 (u t : Tm) (hu : gdT 0 u) (hus : a8 u < 2^30) (e : Int) (hg : gdT e t) (ht : a8 t < 2^30) (he : e ≤ 2^40) : FCall Tryz.prog G 181 [.pu (tmc 0 t), iv .i64 0, .pu (tmc 0 u)] (.pu (tmc 0 (o5 [u] 0 t))) := by
 refine Fq 11 Tryz.func181 ?_;intro w0 M ρ0 D0
 refine Y49 ?_;refine p7 SS 5 ?_;refine b9 SS 6 ?_;refine b8 [3, 5, 6] ?_;refine Y65 ?_;refine yL ?_;refine Dq (ce2 u hu hus _ t (Nat.le_refl _) ht 0 e hg (by omega) (by omega) (by omega)) ?_;refine Y23 ?_;refine Rc ?_;exact ToPu.imp (by repeat constructor)
end
section
variable {G : List (Nat × TypeId × Pu)}
def N7 : Tm → List Nat → Tm → Tm
 | _, [], u => u
 | t, j :: q, u => match t.kids[j]? with
  | some x => O3 t j (N7 x q u)
  | none => t
theorem bm2 (u : Tm) : ∀ (p : List Nat) (t : Tm), okP t p → a8 t < 2^30 → p.length < 2^30 →
  FCall Tryz.prog G 183 [.pu (tmc 0 t), .pu (.sl 0 3 (r0 p)), .pu (tmc 0 u)] (.pu (tmc 0 (N7 t p u))) := by
 intro p
 induction p with
 | nil =>
  intro t _ hN _
  refine Fq 69 Tryz.func183 ?_;intro w0 M ρ0 D0
  refine Y49 ?_;refine p7 SS 5 ?_;refine b9 SS 6 ?_;refine b8 [3, 5, 6] ?_;refine Y1 ?_;refine Y47 ?_;refine Cq ?_ ?_
  ·intro h0
   refine aq6 ?_;refine Rc ?_;exact ToPu.imp (by repeat constructor)
  ·intro h0;exfalso; simp [r0] at h0
 | cons j q ih =>
  intro t hok hN hl
  obtain ⟨x, hx, hokq⟩ := hok
  obtain ⟨k, n, r, ks, cs⟩ := t
  simp only [H5] at hx
  have hj : j < ks.length := (List.getElem?_eq_some_iff.1 hx).1
  have hlen := f9 ks
  have hN' := hN
  simp only [a8] at hN'
  have hxs := o8 (List.mem_of_getElem? hx)
  have hxg : (l8 0 ks)[j]? = some (tmc 0 x) := by simp [l6, hx]
  simp only [List.length_cons] at hl
  have hkt : j < (l8 0 ks).length := by rw [a9]; exact hj
  have hp0 : (r0 (j :: q))[0]? = some (.leaf (.int .i64 (j : Nat))) := by simp [r0]
  have hne : l8 0 ks ≠ [] := fun e => by
   have := congrArg List.length e
   rw [a9] at this
   simp at this
   simp [this] at hj
  refine Fq 69 Tryz.func183 ?_;intro w0 M ρ0 D0
  refine Y49 ?_;refine p7 SS 5 ?_;refine b9 SS 6 ?_;refine b8 [3, 5, 6] ?_;refine Y1 ?_;refine Y47 ?_;refine Cq ?_ ?_
  ·intro h0;exfalso; simp [r0] at h0; omega
  ·intro h0
   refine Y72 ?_;refine b9 SS 7 ?_;refine yS ?_;refine b8 [7] ?_;refine Y1 ?_;refine Xq hp0 ?_;refine yL ?_;refine Y8 ?_;refine Y93 ?_;refine Cq ?_ ?_
   ·intro h1
    refine yR ?_;refine yZ ?_;refine Y7 ?_;refine bI4 SS 70 hne (by rw [a9]; omega) ?_;refine Y74 ?_;refine b8 [70] ?_;refine Y60 ?_;refine Y68 ?_;refine Xq hxg ?_;refine yL ?_;refine yM ?_;refine b5 (ah6 SS (ps := r0 (j :: q)) (l := 1) (by simp [r0])) ?_;refine yL ?_;refine Dq (ih x hokq (by omega) (by omega)) ?_;refine b5 (bG5 SS) ?_;refine aH3 SS (i := j) (vs := (l8 0 ks).map .pu) (u0 := .pu (tmc 0 x)) (by simp [l6, hx]) ?_;refine J2 ?_;rw [bq9]
    refine Tri.freeze (lo := 0) (l := 70) (E := 32) (ps := l8 0 (ks.set j (N7 x q u))) (env' := [(6, .ptr 6 [] 32), (7, .ptr 7 [] 32)]) (heap' := [(6, .var 32 (.agg 32 [iv .i64 0, iv .i64 0, .pu (l4 Z32), .nilc, .nilc])), (7, .var 32 (.agg 32 [.pu (.leaf (.int .i64 k)), .pu (.leaf (.int .i64 n)), .pu (l4 r), .pu (.sl 0 32 (l8 0 (ks.set j (N7 x q u)))), .pu (.sl 0 106 (z8 0 cs))]))]) rfl (.inl rfl) ?_ (h2 := .cons rfl rfl rfl (.cons rfl rfl (by simp [aL4, at8, bD2, a9, aZ8]) .nil))
    have hset : N7 (.mk k n r ks cs) (j :: q) u = .mk k n r (ks.set j (N7 x q u)) cs := by simp only [N7, H5, hx, O3]
    rw [hset];refine aq6 ?_;refine Rc ?_;exact ToPu.imp (by repeat constructor)
   ·intro h1;exfalso; rw [a9] at h1; simp at h1; omega
end
mutual
theorem ao7 (vs : List Tm) : ∀ (t : Tm) (d e : Int), gdT d t → d ≤ e → 0 ≤ d → e + 2 * a8 t ≤ 2^42 → o5 vs e t = t
 | .mk k n r ks cs, d, e, h, hd, h0, he => by
  simp only [a8] at he
  have hk := az7 vs ks d e k 0 h.2.2.2.2.1 hd h0 (by omega)
  have hc := az8 vs cs d e h.2.2.2.2.2 hd h0 (by omega)
  simp only [o5]
  rw [dif_neg fun hh => by
   have := h.2.2.2.1 hh.1
   have h2 := hh.2.1
   rw [b7 (by omega) (by omega)] at h2
   omega, hk, hc]
theorem az7 (vs : List Tm) : ∀ (ks : List Tm) (d e k : Int) (i : Nat), gdK d k i ks → d ≤ e → 0 ≤ d → e + 2 + 2 * d7 ks ≤ 2^42 → G5 vs e k i ks = ks
 | [], _, _, _, _, _, _, _, _ => rfl
 | t :: ts, d, e, k, i, h, hd, h0, he => by
  simp only [d7] at he
  have hm := ae9 k i
  have hp := m8 t
  simp only [G5]
  rw [ao7 vs t (d + j8 k i) (e + j8 k i) h.1 (by omega) (by omega) (by omega), az7 vs ts d e k (i + 1) h.2 hd h0 (by omega)]
theorem az8 (vs : List Tm) : ∀ (cs : List Cs) (d e : Int), gdC d cs → d ≤ e → 0 ≤ d → e + 2 * f6 cs ≤ 2^42 → E8 vs e cs = cs
 | [], _, _, _, _, _, _ => rfl
 | .mk q t :: cs, d, e, h, hd, h0, he => by
  simp only [f6, p9] at he
  have hb := y5 q
  simp only [E8, aw0]
  rw [ao7 vs t (d + m7 q) (e + m7 q) h.1.2 (by omega) (by omega) (by omega), az8 vs cs d e h.2 hd h0 (by omega)]
end
mutual
theorem aD4 (v : Tm) (vs : List Tm) (hl : vs.length < 2^40) (hvs : ∀ x ∈ vs, gdT 0 x ∧ a8 x < 2^40) : ∀ (t : Tm) (d e : Int), gdT e t → 0 ≤ d → d + 2 * a8 t ≤ 2^41 → e + 2 * a8 t ≤ 2^42 →
  o5 (v :: vs) d t = o5 [v] d (o5 vs d t)
 | .mk k n r ks cs, d, e, h, h0, hd, he => by
  simp only [a8] at hd he
  have hk := bc8 v vs hl hvs ks d e k 0 h.2.2.2.2.1 h0 (by omega) (by omega)
  have hc := bd1 v vs hl hvs cs d e h.2.2.2.2.2 h0 (by omega) (by omega)
  have hv := h.2.2.2.1
  by_cases h1 : k = 1 ∧ d ≤ n
  ·obtain ⟨hk1, hdn⟩ := h1
   have hn := hv hk1
   have hw : IntKind.wrap .i64 (n - d) = n - d := b7 (by omega) (by omega)
   by_cases h2 : n - d < vs.length
   ·-- a value of vs
    have hpos : 0 < vs.length := by omega
    have e1 : o5 vs d (.mk k n r ks cs) = vs[vs.length - 1 - (n - d).toNat]'(by omega) := by
     simp only [o5, hw]
     rw [dif_pos ⟨hk1, by omega, hpos⟩, dif_pos h2]
    have hm := hvs _ (List.getElem_mem (show vs.length - 1 - (n - d).toNat < vs.length by omega))
    rw [e1, ao7 [v] _ 0 d hm.1 (by omega) (by omega) (by omega)]
    simp only [o5, hw]
    rw [dif_pos ⟨hk1, by omega, by simp⟩, dif_pos (by simp; omega)]
    simp only [List.length_cons]
    have : vs.length + 1 - 1 - (n - d).toNat = (vs.length - 1 - (n - d).toNat) + 1 := by omega
    simp only [this, List.getElem_cons_succ]
   ·have e1 : o5 vs d (.mk k n r ks cs) = .mk k (n - vs.length) r (G5 vs d k 0 ks) (E8 vs d cs) := by
     by_cases hpos : 0 < vs.length
     ·simp only [o5, hw]
      rw [dif_pos ⟨hk1, by omega, hpos⟩, dif_neg h2, b7 (by omega) (by omega)]
     ·simp only [o5, hw]
      rw [dif_neg fun hh => hpos hh.2.2]
      have : vs.length = 0 := by omega
      simp [this]
    rw [e1]
    have hw2 : IntKind.wrap .i64 (n - vs.length - d) = n - vs.length - d := b7 (by omega) (by omega)
    by_cases h3 : n - d = vs.length
    ·simp only [o5, hw, hw2]
     rw [dif_pos ⟨hk1, by omega, by simp⟩, dif_pos (by simp; omega), dif_pos ⟨hk1, by omega, by simp⟩, dif_pos (by simp; omega)]
     have e3 : (v :: vs).length - 1 - (n - d).toNat = 0 := by simp; omega
     have e4 : ([v] : List Tm).length - 1 - (n - vs.length - d).toNat = 0 := by simp
     simp only [e3, e4, List.getElem_cons_zero]
    ·simp only [o5, hw, hw2]
     rw [dif_pos ⟨hk1, by omega, by simp⟩, dif_neg (by simp; omega), dif_pos ⟨hk1, by omega, by simp⟩, dif_neg (by simp; omega), hk, hc]
     simp only [List.length_cons, List.length_nil]
     congr 1
     rw [b7 (by omega) (by omega), b7 (by omega) (by omega)]
     omega
  ·have e1 : ∀ ws : List Tm, o5 ws d (.mk k n r ks cs) = .mk k n r (G5 ws d k 0 ks) (E8 ws d cs) := fun ws => by
    simp only [o5]
    rw [dif_neg fun hh => by
     have := hv hh.1
     have h2 := hh.2.1
     rw [b7 (by omega) (by omega)] at h2
     exact h1 ⟨hh.1, by omega⟩]
   have e2 : o5 [v] d (.mk k n r (G5 vs d k 0 ks) (E8 vs d cs)) = .mk k n r (G5 [v] d k 0 (G5 vs d k 0 ks)) (E8 [v] d (E8 vs d cs)) := by
    simp only [o5]
    rw [dif_neg fun hh => by
     have := hv hh.1
     have h2 := hh.2.1
     rw [b7 (by omega) (by omega)] at h2
     exact h1 ⟨hh.1, by omega⟩]
   rw [e1 (v :: vs), e1 vs, e2, hk, hc]
theorem bc8 (v : Tm) (vs : List Tm) (hl : vs.length < 2^40) (hvs : ∀ x ∈ vs, gdT 0 x ∧ a8 x < 2^40) : ∀ (ks : List Tm) (d e k : Int) (i : Nat), gdK e k i ks → 0 ≤ d → d + 2 + 2 * d7 ks ≤ 2^41 → e + 2 + 2 * d7 ks ≤ 2^42 →
  G5 (v :: vs) d k i ks = G5 [v] d k i (G5 vs d k i ks)
 | [], _, _, _, _, _, _, _, _ => rfl
 | t :: ts, d, e, k, i, h, h0, hd, he => by
  simp only [d7] at hd he
  have hm := ae9 k i
  have hp := m8 t
  simp only [G5]
  rw [aD4 v vs hl hvs t (d + j8 k i) (e + j8 k i) h.1 (by omega) (by omega) (by omega), bc8 v vs hl hvs ts d e k (i + 1) h.2 h0 (by omega) (by omega)]
theorem bd1 (v : Tm) (vs : List Tm) (hl : vs.length < 2^40) (hvs : ∀ x ∈ vs, gdT 0 x ∧ a8 x < 2^40) : ∀ (cs : List Cs) (d e : Int), gdC e cs → 0 ≤ d → d + 2 * f6 cs ≤ 2^41 → e + 2 * f6 cs ≤ 2^42 →
  E8 (v :: vs) d cs = E8 [v] d (E8 vs d cs)
 | [], _, _, _, _, _, _ => rfl
 | .mk q t :: cs, d, e, h, h0, hd, he => by
  simp only [f6, p9] at hd he
  have hb := y5 q
  simp only [E8, aw0]
  rw [aD4 v vs hl hvs t (d + m7 q) (e + m7 q) h.1.2 (by omega) (by omega) (by omega), bd1 v vs hl hvs cs d e h.2 h0 (by omega) (by omega)]
end
theorem aS4 (t : Tm) (j : Nat) (way : List Tm) (q : List Nat) : ∀ (m : Nat) (y : Tm), m ≤ way.length → m ≤ q.length → v8 (t :: way) (j :: q) 0 (m + 1) y = O3 t j (v8 way q 0 m y)
 | 0, y, _, _ => by simp [v8]
 | m + 1, y, h1, h2 => by
  have e1 : v8 (t :: way) (j :: q) 0 (m + 1 + 1) y = v8 (t :: way) (j :: q) 0 (m + 1) (O3 way[m] q[m] y) := by
   rw [v8]
   simp [List.getElem?_eq_getElem (show m < way.length by omega), List.getElem?_eq_getElem (show m < q.length by omega)]
  have e2 : v8 way q 0 (m + 1) y = v8 way q 0 m (O3 way[m] q[m] y) := by
   rw [v8]
   simp [List.getElem?_eq_getElem (show m < way.length by omega), List.getElem?_eq_getElem (show m < q.length by omega)]
  rw [e1, e2, aS4 t j way q m _ (by omega) (by omega)]
theorem aj4 : ∀ {p : List Nat} {t : Tm} (n : Nat) (y : Tm), okP t p → n ≤ p.length → v8 (l5 t p) p 0 n y = N7 t (p.take n) y
 | [], t, n, y, _, h => by
  have : n = 0 := by simpa using h
  subst this
  simp [v8, N7]
 | j :: q, t, 0, y, _, _ => by simp [v8, N7]
 | j :: q, t, n + 1, y, ⟨x, hx, hok⟩, h => by
  simp only [List.length_cons] at h
  have hw : l5 t (j :: q) = t :: l5 x q := by simp [l5, hx]
  rw [hw, aS4 t j _ q n y (by rw [F3 hok]; omega) (by omega), aj4 n y hok (by omega)]
  simp [N7, hx]
theorem aS3 (way : List Tm) (path : List Nat) (lo : Nat) : ∀ (m : Nat) (y : Tm), lo + m ≤ way.length → lo + m ≤ path.length → v8 way path lo (lo + m) y = v8 (way.drop lo) (path.drop lo) 0 m y
 | 0, y, _, _ => by
  cases lo with
  | zero => rfl
  | succ l => simp [v8]
 | m + 1, y, h1, h2 => by
  have e1 : v8 way path lo (lo + (m + 1)) y = v8 way path lo (lo + m) (O3 way[lo + m] path[lo + m] y) := by
   rw [show lo + (m + 1) = (lo + m) + 1 by omega, v8, if_neg (by omega)]
   simp [List.getElem?_eq_getElem (show lo + m < way.length by omega), List.getElem?_eq_getElem (show lo + m < path.length by omega)]
  have e2 : v8 (way.drop lo) (path.drop lo) 0 (m + 1) y = v8 (way.drop lo) (path.drop lo) 0 m (O3 way[lo + m] path[lo + m] y) := by
   rw [v8]
   simp [List.getElem?_drop, List.getElem?_eq_getElem (show lo + m < way.length by omega), List.getElem?_eq_getElem (show lo + m < path.length by omega)]
  rw [e1, e2, aS3 way path lo m _ (by omega) (by omega)]
theorem aG0 : ∀ {p : List Nat} {t : Tm} (n : Nat), okP t p → n ≤ p.length → (l5 t p).drop n = l5 (d0 t (p.take n)) (p.drop n) ∧ okP (d0 t (p.take n)) (p.drop n)
 | p, t, 0, h, _ => by simp only [List.drop_zero, List.take_zero, d0]; exact ⟨trivial, h⟩
 | [], t, n + 1, _, h => by simp at h
 | j :: q, t, n + 1, ⟨x, hx, hok⟩, h => by
  simp only [List.length_cons] at h
  obtain ⟨h1, h2⟩ := aG0 n hok (by omega)
  simp only [l5, hx, List.drop_succ_cons, List.take_succ_cons, d0]
  exact ⟨h1, h2⟩
theorem aS2 {p : List Nat} {t : Tm} {n : Nat} (y : Tm) (hok : okP t p) (hn : n ≤ p.length) : v8 (l5 t p) p n p.length y = N7 (d0 t (p.take n)) (p.drop n) y := by
 obtain ⟨h1, h2⟩ := aG0 n hok hn
 have := aS3 (l5 t p) p n (p.length - n) y (by rw [F3 hok]; omega) (by omega)
 rw [show n + (p.length - n) = p.length by omega] at this
 rw [this, h1, aj4 _ y h2 (by simp)]
 congr 1
 rw [← List.length_drop, List.take_length]
theorem X7 {p : List Nat} {t : Tm} (y : Tm) (hok : okP t p) : I0 t p y = N7 t p y := by
 unfold I0
 rw [aj4 p.length y hok (Nat.le_refl _), List.take_length]
theorem bu8 : ∀ {ks : List Tm} {d k : Int} {i j : Nat} {x : Tm}, gdK d k i ks → gdT (d + j8 k ((i + j : Nat) : Int)) x → gdK d k i (ks.set j x)
 | [], _, _, _, _, _, _, _ => trivial
 | t :: ts, d, k, i, 0, x, h, hx => ⟨hx, h.2⟩
 | t :: ts, d, k, i, j + 1, x, h, hx => ⟨h.1, bu8 (i := i + 1) (j := j) h.2 (by rwa [show i + 1 + j = i + (j + 1) by omega])⟩
def ag9 (t : Tm) (p : List Nat) : Prop := ∀ i (_ : i < p.length), j8 (d0 t (p.take i)).kind ((p[i]'(by assumption) : Nat) : Int) = 0
theorem bo0 {t x : Tm} {j : Nat} {q : List Nat} (h : ag9 t (j :: q)) (hx : t.kids[j]? = some x) : j8 t.kind (j : Nat) = 0 ∧ ag9 x q := by
 refine ⟨h 0 (by simp), fun i hi => ?_⟩
 have := h (i + 1) (by simpa using hi)
 simpa only [List.take_succ_cons, d0, hx, List.getElem_cons_succ] using this
theorem N5 (t : Tm) : ag9 t (c9 t) := fun i hi => ao8 _ t (Nat.le_refl _) i hi
theorem aL5 {t : Tm} {p : List Nat} (h : ag9 t p) (n : Nat) : ag9 t (p.take n) := fun i hi => by
 have hl : i < p.length := by simp at hi; omega
 have hn : i < n := by simp at hi; omega
 have := h i hl
 rw [List.take_take, Nat.min_eq_left (by omega), List.getElem_take];exact this
theorem aO6 : ∀ {p : List Nat} {t : Tm} (n i : Nat), okP t p → n + i ≤ p.length → d0 (d0 t (p.take n)) ((p.drop n).take i) = d0 t (p.take (n + i))
 | p, t, 0, i, _, _ => by simp [d0]
 | [], t, n + 1, i, _, h => by simp at h
 | j :: q, t, n + 1, i, ⟨x, hx, hok⟩, h => by
  simp only [List.length_cons] at h
  rw [show n + 1 + i = (n + i) + 1 by omega]
  simp only [List.take_succ_cons, List.drop_succ_cons, d0, hx]
  exact aO6 n i hok (by omega)
theorem bn9 {t : Tm} {p : List Nat} (h : ag9 t p) (hok : okP t p) (n : Nat) (hn : n ≤ p.length) : ag9 (d0 t (p.take n)) (p.drop n) := fun i hi => by
 have hl : n + i < p.length := by simp at hi; omega
 rw [aO6 n i hok (by omega), List.getElem_drop];exact h (n + i) hl
theorem aU3 {y : Tm} : ∀ {p : List Nat} {t : Tm} {d : Int}, ag9 t p → gdT d t → gdT d y → gdT d (N7 t p y)
 | [], _, _, _, _, hy => hy
 | j :: q, .mk k n r ks cs, d, hf, h, hy => by
  simp only [N7]
  split
  ·rename_i x hx
   obtain ⟨h0, hq⟩ := bo0 hf hx
   simp only [aE1] at h0
   simp only [H5] at hx
   have hg := at7 h.2.2.2.2.1 hx
   rw [Nat.zero_add, h0, Int.add_zero] at hg
   refine ⟨h.1, by rw [List.length_set]; exact h.2.1, h.2.2.1, h.2.2.2.1, bu8 h.2.2.2.2.1 ?_, h.2.2.2.2.2⟩
   rw [Nat.zero_add, h0, Int.add_zero];exact aU3 hq hg hy
  ·exact h
theorem cg3 (n d : Int) : gdT d (aV8 n) := ⟨⟨by omega, by omega, by omega⟩, by simp [y7], fun h => by omega, fun h => by omega, trivial, trivial⟩
theorem cg2 : gdT 1 V2 := ⟨⟨by omega, by omega, by omega⟩, by simp [y7], fun h => by omega, fun _ => by omega, trivial, trivial⟩
theorem bM2 (i : Nat) : j8 4 (i : Int) = 0 := by unfold j8; rw [if_neg (by omega), if_neg (by omega)]
theorem V0 {k : Int} (h : k = 5 ∨ k = 12 ∨ k = 9 ∨ k = 11) : j8 k ((0 : Nat) : Int) = 0 := by unfold j8; rw [if_neg (by omega), if_neg (by omega)]
theorem bB8 {k : Int} (h : k = 5 ∨ k = 12) : j8 k ((1 : Nat) : Int) = 1 := by unfold j8; rw [if_pos (by omega)]
theorem be1 {i : Nat} (h : 2 ≤ i) : j8 12 (i : Int) = 2 := by unfold j8; rw [if_neg (by omega), if_pos (by omega)]
theorem bt2 {x b : Tm} (hx : gdT 0 x) (hb : gdT 1 b) (hz : a8 b < 2^40) : gdT 0 (o5 [x] 0 b) :=
 aI8 [x] (fun v hv => by simp at hv; subst hv; exact hx) b 0 (by omega) (by simp; omega) (by simpa using hb)
theorem bR2 {w f x b : Tm} (hw : gdT 0 w) (hk : w.kind = 4) (h0 : w.kids[0]? = some f) (hf : f.kind = 3) (h1 : w.kids[1]? = some x) (hb : f.kids[0]? = some b) : gdT 0 x ∧ gdT 1 b := by
 have e0 := L9 hw h0
 have e1 := L9 hw h1
 rw [hk, bM2, Int.add_zero] at e0 e1
 have e2 := L9 e0 hb
 rw [hf] at e2
 exact ⟨e1, by simpa [j8] using e2⟩
theorem bM8 {w x b : Tm} (hw : gdT 0 w) (hk : w.kind = 5 ∨ w.kind = 12) (h0 : w.kids[0]? = some x) (h1 : w.kids[1]? = some b) : gdT 0 x ∧ gdT 1 b := by
 have e0 := L9 hw h0
 have e1 := L9 hw h1
 rw [V0 (by omega), Int.add_zero] at e0
 rw [bB8 hk] at e1
 exact ⟨e0, by simpa using e1⟩
section
variable {G : List (Nat × TypeId × Pu)}
theorem Q3 {op a b : Int} (h0 : ¬ op = 1) (h1 : ¬ op = 2) (h2 : ¬ op = 3) (h3 : op = 4 → ¬ a = b) (h4 : op = 5 → b ≤ a) : ak2 (H9 op a b) = 0 := by
 have e : H9 op a b = 0 := by
  unfold H9
  rw [if_neg h0, if_neg h1, if_neg h2]
  by_cases h : op = 4
  ·rw [if_pos h, if_neg (h3 h)]
  ·rw [if_neg h]
   by_cases h' : op = 5
   ·rw [if_pos h', if_neg (by have := h4 h'; omega)]
   ·rw [if_neg h']
 rw [e]; rfl
theorem bA2 (op a b : Int) : FCall Tryz.prog G 182 [iv .i64 op, iv .i64 a, iv .i64 b] (iv .i64 (ak2 (H9 op a b))) := by
 refine Fq 44 Tryz.func182 ?_;intro w0 M ρ0 D0
 refine Y21 ?_;refine Y10 ?_;refine Tri.block ?_;refine Y76 ?_;refine Cq ?_ ?_
 ·intro h0
  refine Y62 ?_;refine Y8 ?_;refine Y1 ?_;refine b5 (I5) ?_;refine b5 (N0) ?_;refine Y2 ?_;refine Rq ?_;exact c7 (by first | (simp_all [H9, ak2]; done) | (rw [Q3 (by simp_all) (by simp_all) (by simp_all) (by simp_all) (by simp_all)]; rfl))
 ·intro h0
  refine Y76 ?_;refine Cq ?_ ?_
  ·intro h1
   refine Y62 ?_;refine Y8 ?_;refine Y1 ?_;refine b5 (I5) ?_;refine b5 (N0) ?_;refine Y2 ?_;refine Rq ?_;exact c7 (by first | (simp_all [H9, ak2]; done) | (rw [Q3 (by simp_all) (by simp_all) (by simp_all) (by simp_all) (by simp_all)]; rfl))
  ·intro h1
   refine Y76 ?_;refine Cq ?_ ?_
   ·intro h2
    refine Y62 ?_;refine Y8 ?_;refine Y1 ?_;refine b5 (I5) ?_;refine b5 (N0) ?_;refine Y2 ?_;refine Rq ?_;exact c7 (by first | (simp_all [H9, ak2]; done) | (rw [Q3 (by simp_all) (by simp_all) (by simp_all) (by simp_all) (by simp_all)]; rfl))
   ·intro h2
    refine Y11 ?_;refine ay7 ?_;refine Y44 ?_;refine Cq ?_ ?_
    ·intro h3
     refine Y15 ?_;refine Cq ?_ ?_
     ·intro h4
      refine Y71 ?_;refine b5 (I5) ?_;refine b5 (N0) ?_;refine Y2 ?_;refine Rq ?_;exact c7 (by first | (simp_all [H9, ak2]; done) | (rw [Q3 (by simp_all) (by simp_all) (by simp_all) (by simp_all) (by simp_all)]; rfl))
     ·intro h4
      refine Y87 ?_;refine b5 (I5) ?_;refine b5 (N0) ?_;refine Y2 ?_;refine Rq ?_;exact c7 (by first | (simp_all [H9, ak2]; done) | (rw [Q3 (by simp_all) (by simp_all) (by simp_all) (by simp_all) (by simp_all)]; rfl))
    ·intro h3
     refine Y11 ?_;refine ay7 ?_;refine Y44 ?_;refine Cq ?_ ?_
     ·intro h4
      refine Y71 ?_;refine b5 (I5) ?_;refine b5 (N0) ?_;refine Y2 ?_;refine Rq ?_;exact c7 (by first | (simp_all [H9, ak2]; done) | (rw [Q3 (by simp_all) (by simp_all) (by simp_all) (by simp_all) (by simp_all)]; rfl))
     ·intro h4
      refine Y87 ?_;refine b5 (I5) ?_;refine b5 (N0) ?_;refine Y2 ?_;refine Rq ?_;exact c7 (by first | (simp_all [H9, ak2]; done) | (rw [Q3 (by simp_all) (by simp_all) (by simp_all) (by simp_all) (by simp_all)]; rfl))
theorem ab9 (t : Tm) (hN : a8 t < 2^40) : FCall Tryz.prog G 117 [.pu (tmc 0 t)] (iv .i64 (if (m2 300 60 1 0 t).1 then 11 else 0)) := by
 have he := aL9 (mn := 300) (md := 60) (most := 400) t (by omega)
 refine Fq 16 Tryz.func117 ?_;intro w0 M ρ0 D0
 refine Y85 ?_;refine Y4 ?_;refine Dq (av8 _ t (Nat.le_refl _) hN 400 (by omega)) ?_;refine Y80 ?_;refine Y58 ?_;refine Y92 ?_;refine Cq ?_ ?_
 ·intro h0
  refine Y10 ?_;refine Rq ?_;exact c7 (by rw [← he, h0]; rfl)
 ·intro h0
  refine Y45 ?_;refine Rq ?_;exact c7 (by rw [← he, h0]; rfl)
end
theorem bk1 {t : Tm} {p : List Nat} (hok : okP t p) {n : Nat} (hn : n ≤ p.length) {x : Tm} (h : (l5 t p)[n]? = some x) : x = d0 t (p.take n) := by
 rw [B3 hok hn] at h
 exact (Option.some.inj h).symm
theorem aE3 : ∀ (way : List Tm) (r : List Int) (n : Nat), 0 ≤ p8 way r n → ∃ x, way[(p8 way r n).toNat]? = some x ∧ x.kind = 12 ∧ x.ref = r ∧ (p8 way r n).toNat < n
 | way, r, 0, h => by simp [p8] at h
 | way, r, n + 1, h => by
  cases hx : way[n]? with
  | none =>
   have e : p8 way r (n + 1) = p8 way r n := by simp only [p8, hx]
   rw [e] at h ⊢
   obtain ⟨y, h1, h2, h3, h4⟩ := aE3 way r n h
   exact ⟨y, h1, h2, h3, by omega⟩
  | some x =>
   by_cases hc : (x.kind == 12 && x.ref == r) = true
   ·have e : p8 way r (n + 1) = n := by simp only [p8, hx, if_pos hc]
    rw [e, Int.toNat_natCast]
    simp at hc
    exact ⟨x, hx, hc.1, hc.2, by omega⟩
   ·have e : p8 way r (n + 1) = p8 way r n := by simp only [p8, hx, if_neg hc]
    rw [e] at h ⊢
    obtain ⟨y, h1, h2, h3, h4⟩ := aE3 way r n h
    exact ⟨y, h1, h2, h3, by omega⟩
theorem bO2 {t : Tm} {p : List Nat} (hg : gdT 0 t) (hf : ag9 t p) (n : Nat) : gdT 0 (d0 t (p.take n)) := at6 hg (aL5 hf n)
theorem bx4 {t : Tm} {p : List Nat} (hg : gdT 0 t) (hok : okP t p) (hf : ag9 t p) {n : Nat} (hn : n ≤ p.length) : gdT 0 (I4 t p n) := by
 refine ⟨⟨by omega, by omega, by omega⟩, by simp [y7], fun h => by omega, fun h => by omega, ⟨?_, trivial⟩, trivial⟩
 rw [aS2 V2 hok hn]
 have : j8 3 ((0 : Nat) : Int) = 1 := by simp [j8]
 rw [this];exact aU3 (bn9 hf hok n hn) (af7 (by omega) (bO2 hg hf n)) cg2
theorem bi5 {s : List Int} {y : Tm} : ∀ {ts : List KT}, M0 s ts = some y → ∃ x ∈ ts, x.2 = y
 | [], h => by simp [M0] at h
 | x :: ts, h => by
  simp only [M0] at h
  split at h
  ·simp at h; exact ⟨x, by simp, h⟩
  ·obtain ⟨z, h1, h2⟩ := bi5 h
   exact ⟨z, by simp [h1], h2⟩
theorem cb5 {ts : List KT} {way : List Tm} {len : Nat} {w : Tm} (h : z7 ts way len w = 5) : w.kind = 9 ∧ ∃ v, w.kids[0]? = some v ∧ ((u7 w.cases v).kind != 0) = true := by
 have hk := (E3 h).2.2.2.2.1 rfl
 obtain ⟨k, n, r, ks, cs⟩ := w
 simp only [aE1] at hk
 subst hk
 refine ⟨rfl, ?_⟩
 simp only [z7] at h
 simp at h
 simp only [H5]
 cases hf : ks[0]? with
 | none => simp [hf] at h
 | some f =>
  refine ⟨f, rfl, ?_⟩
  simp only [hf] at h
  show ((u7 cs f).kind != 0) = true
  generalize hb : ((u7 cs f).kind != 0) = bb at h
  cases bb
  ·simp at h
  ·rfl
theorem aX5 {ts : List KT} {t : Tm} {p : List Nat} (hg : gdT 0 t) (hok : okP t p) (hf : ag9 t p) (hN : a8 t < 2^28) (hb : ∀ x ∈ ts, gdT 0 x.2) {k : Int} (hk : y6 ts t p = k) (hk7 : k ≤ 7) : gdT 0 (r5 ts t p k) := by
 have hw := at6 hg hf
 have hws : a8 (d0 t p) ≤ a8 t := t5
 have hsh := ab1 hw
 obtain ⟨i1, i2, i3, i4, i5, i6, i7, ⟨i8, _⟩, _⟩ := E3 hk
 have put : ∀ {y : Tm}, gdT 0 y → gdT 0 (I0 t p y) := fun {y} hy => by rw [X7 y hok]; exact aU3 hf hg hy
 have let' : (d0 t p).kind = 5 ∨ (d0 t p).kind = 12 → gdT 0 (at3 (d0 t p)) := fun hkk => by
  obtain ⟨x, b, h0, h1⟩ : ∃ x b, (d0 t p).kids[0]? = some x ∧ (d0 t p).kids[1]? = some b := by
   rcases hkk with hkk | hkk
   ·exact aW0 hsh (by omega)
   ·exact bM9 hsh hkk
  obtain ⟨g1, g2⟩ := bM8 hw hkk h0 h1
  have := o4 h1
  simp only [at3, h0, h1]
  exact bt2 g1 g2 (by omega)
 unfold r5
 by_cases e1 : k = 1
 ·rw [if_pos e1]
  obtain ⟨hk4, f, h0, hf3⟩ := i1 e1
  obtain ⟨f', x, h0', h1⟩ := aW0 hsh (by omega)
  obtain rfl : f' = f := Option.some.inj (h0'.symm.trans h0)
  have hfs := ab1 (L9 hw h0)
  obtain ⟨b, hb0⟩ := aN7 hfs (by omega)
  obtain ⟨g1, g2⟩ := bR2 hw hk4 h0 hf3 h1 hb0
  have := o4 h0
  have := o4 hb0
  refine put ?_
  simp only [bj0, h0, h1, hb0]
  exact bt2 g1 g2 (by omega)
 rw [if_neg e1]
 by_cases e2 : k = 2
 ·rw [if_pos e2]; exact put (let' (.inl (i2 e2)))
 rw [if_neg e2]
 by_cases e3 : k = 3
 ·rw [if_pos e3]
  obtain ⟨_, h⟩ := i3 e3
  obtain ⟨y, hy⟩ := Option.isSome_iff_exists.1 h
  obtain ⟨x, hx, rfl⟩ := bi5 hy
  rw [hy];exact put (hb x hx)
 rw [if_neg e3]
 by_cases e4 : k = 4
 ·rw [if_pos e4]
  obtain ⟨x, y, h0, h1⟩ := aW0 hsh (by have := i4 e4; omega)
  refine put ?_
  simp only [bd4, h0, h1]
  exact cg3 _ _
 rw [if_neg e4]
 by_cases e5 : k = 5
 ·rw [if_pos e5]
  subst e5
  obtain ⟨hk9, v, h0, hm⟩ := cb5 hk
  have hv := L9 hw h0
  rw [V0 (by omega), Int.add_zero] at hv
  have hvs := o4 h0
  refine put ?_
  simp only [be4, h0]
  generalize d0 t p = w at *
  obtain ⟨wk, wn, wr, ks, cs⟩ := w
  have hc := hw.2.2.2.2.2
  simp only [a8] at hws hvs
  have hz : (a8 v : Int) + 2 * f6 cs ≤ 2^50 := by omega
  rw [show (Tm.mk wk wn wr ks cs).cases = cs from rfl] at hm ⊢
  rw [ap2 hv hc (by omega)] at hm
  exact aK6 hv hc (by omega) hm
 rw [if_neg e5]
 by_cases e6 : k = 6
 ·rw [if_pos e6]
  obtain ⟨hk11, hn0, x, hx, hxl⟩ := i6 e6
  obtain ⟨y, hy, hy12, _, hnl⟩ := aE3 _ _ _ hn0
  obtain rfl : y = x := Option.some.inj (hy.symm.trans hx)
  obtain ⟨a, ha⟩ := aN7 hsh (by omega)
  have hga := L9 hw ha
  rw [V0 (by omega), Int.add_zero] at hga
  have hnum : 0 ≤ (d0 t p).num := by
   generalize d0 t p = w at *
   obtain ⟨wk, wn, wr, ks, cs⟩ := w
   exact (hw.2.2.1 hk11).1
  have hxw := bk1 hok (by omega) hx
  have hgx := bO2 hg hf (p8 (l5 t p) (d0 t p).ref p.length).toNat
  rw [← hxw] at hgx
  obtain ⟨b, hbk⟩ : ∃ b, y.kids[(2 + (d0 t p).num).toNat]? = some b := ⟨_, List.getElem?_eq_getElem (by omega)⟩
  have hgb := L9 hgx hbk
  rw [hy12, be1 (by omega)] at hgb
  have hbs := o4 hbk
  have hys : a8 y ≤ a8 t := by rw [hxw]; exact t5
  unfold doM
  rw [ha, ← hxw, hbk]
  simp only
  rw [aj4 _ _ hok (by omega)];refine aU3 (aL5 hf _) hg (aI8 _ (fun v hv => ?_) b 0 (by omega) (by simp; omega) (by simpa using hgb))
  simp only [List.mem_cons, List.not_mem_nil, or_false] at hv
  rcases hv with rfl | rfl
  ·exact hga
  ·exact bx4 hg hok hf (by omega)
 rw [if_neg e6];exact put (let' (.inr (i7 (by omega))))
mutual
theorem aD5 (vs : List Tm) (hvs : ∀ v ∈ vs, gdT 0 v) : ∀ (t : Tm) (d e : Int), 0 ≤ d → d ≤ e → e + vs.length + 2 * a8 t ≤ 2^60 → gdT (e + vs.length) t → gdT e (o5 vs d t)
 | .mk k n r ks cs, d, e, hd, hde, hz, h => by
  simp only [a8] at hz
  obtain ⟨h1, h2, h3, h4, h5, h6⟩ := h
  have hK := bd0 vs hvs ks d e k 0 hd hde (by omega) h5
  have hC := bd3 vs hvs cs d e hd hde (by omega) h6
  simp only [o5]
  split
  ·rename_i hc
   have hn := h4 hc.1
   have hw : IntKind.wrap .i64 (n - d) = n - d := b7 (by omega) (by omega)
   split
   ·exact af7 (by omega) (hvs _ (List.getElem_mem _))
   ·rename_i hlt
    rw [hw] at hlt
    refine ⟨h1, by rw [O6]; exact h2, fun hk => by omega, fun _ => ?_, hK, hC⟩
    rw [b7 (by omega) (by omega)]
    omega
  ·rename_i hc
   refine ⟨h1, by rw [O6]; exact h2, h3, fun hk => ?_, hK, hC⟩
   have hn := h4 hk
   refine ⟨hn.1, ?_⟩
   by_cases hv : 0 < vs.length
   ·have : ¬ 0 ≤ IntKind.wrap .i64 (n - d) := fun h0 => hc ⟨hk, h0, hv⟩
    rw [b7 (by omega) (by omega)] at this
    omega
   ·omega
theorem bd0 (vs : List Tm) (hvs : ∀ v ∈ vs, gdT 0 v) : ∀ (ks : List Tm) (d e k : Int) (i : Nat), 0 ≤ d → d ≤ e → e + vs.length + 2 + 2 * d7 ks ≤ 2^60 → gdK (e + vs.length) k i ks → gdK e k i (G5 vs d k i ks)
 | [], _, _, _, _, _, _, _, _ => trivial
 | t :: ts, d, e, k, i, hd, hde, hz, h => by
  simp only [d7] at hz
  have hm := ae9 k i
  simp only [G5]
  refine ⟨aD5 vs hvs t (d + j8 k i) (e + j8 k i) (by omega) (by omega) (by omega) ?_, bd0 vs hvs ts d e k (i + 1) hd hde (by omega) h.2⟩
  rw [show e + j8 k i + (vs.length : Int) = e + vs.length + j8 k i by omega];exact h.1
theorem bd3 (vs : List Tm) (hvs : ∀ v ∈ vs, gdT 0 v) : ∀ (cs : List Cs) (d e : Int), 0 ≤ d → d ≤ e → e + vs.length + 2 + 2 * f6 cs ≤ 2^60 → gdC (e + vs.length) cs → gdC e (E8 vs d cs)
 | [], _, _, _, _, _, _ => trivial
 | .mk q t :: cs, d, e, hd, hde, hz, h => by
  simp only [f6, p9] at hz
  have hm := y5 q
  simp only [E8, aw0]
  refine ⟨⟨h.1.1, ?_⟩, bd3 vs hvs cs d e hd hde (by omega) h.2⟩
  have h1 : gdT (e + vs.length + m7 q) t := h.1.2
  show gdT (e + m7 q) (o5 vs (d + m7 q) t)
  exact aD5 vs hvs t (d + m7 q) (e + m7 q) (by omega) (by omega) (by omega) (by rw [show e + m7 q + (vs.length : Int) = e + vs.length + m7 q by omega]; exact h1)
end
theorem bg9 {v : Tm} : ∀ {cs : List Cs} {o i : Nat} {l : List Tm}, U3 v cs o = some (i, l) → ∃ (j : Nat) (q : Pat) (b : Tm), i = o + j ∧ cs[j]? = some (.mk q b) ∧ l = (p5 q v).1 ∧ (p5 q v).2 = true ∧ u7 cs v = o5 l 0 b
 | [], _, _, _, h => by simp [U3] at h
 | .mk q b :: cs, o, i, l, h => by
  simp only [U3] at h
  by_cases hc : (p5 q v).2 = true
  ·rw [if_pos hc] at h
   simp at h
   obtain ⟨rfl, rfl⟩ := h
   exact ⟨0, q, b, rfl, rfl, rfl, hc, by simp only [u7]; rw [if_pos hc]⟩
  ·rw [if_neg hc] at h
   obtain ⟨j, q', b', h1, h2, h3, h4, h5⟩ := bg9 h
   exact ⟨j + 1, q', b', by omega, by simpa using h2, h3, h4, by simp only [u7]; rw [if_neg hc]; exact h5⟩
theorem bP4 {l : List Tm} {b : Tm} {e : Int} (hl : ∀ x ∈ l, gdT 0 x ∧ a8 x < 2^40) (hn : l.length < 2^40) (hb : gdT e b) (he : e ≤ 2^40) (hz : a8 b < 2^39) {j : Nat} (hj : j < l.length) :
  o5 [l[j]] 0 (o5 (l.drop (j + 1)) 0 b) = o5 (l.drop j) 0 b := by
 rw [List.drop_eq_getElem_cons hj];exact (aD4 l[j] (l.drop (j + 1)) (by simp; omega) (fun x hx => hl x (List.mem_of_mem_drop hx)) b 0 e hb (by omega) (by omega) (by omega)).symm
mutual
theorem as3 : ∀ (t : Tm) (d : Int), o5 [] d t = t
 | .mk k n r ks cs, d => by
  simp only [o5]
  rw [dif_neg (fun h => absurd h.2.2 (by simp)), aQ3 ks d k 0, aQ4 cs d]
theorem aQ3 : ∀ (ks : List Tm) (d k : Int) (i : Nat), G5 [] d k i ks = ks
 | [], _, _, _ => rfl
 | t :: ts, d, k, i => by simp only [G5]; rw [as3 t, aQ3 ts d k (i + 1)]
theorem aQ4 : ∀ (cs : List Cs) (d : Int), E8 [] d cs = cs
 | [], _ => rfl
 | .mk q t :: cs, d => by simp only [E8, aw0]; rw [as3 t, aQ4 cs d]
end
section
variable {G : List (Nat × TypeId × Pu)}
theorem U2 {lo : Nat} {ks : List Tm} {j : Nat} {x : Tm} (h : ks[j]? = some x) : (l8 lo ks)[j]? = some (tmc lo x) := by simp [l6, h]
theorem ck5 {ts : List KT} {t : Tm} {p : List Nat} (hok : okP t p) : r5 ts t p 1 = N7 t p (bj0 (d0 t p)) := by unfold r5; rw [if_pos rfl, X7 _ hok]
theorem cg4 {ts : List KT} {t : Tm} {p : List Nat} (hok : okP t p) {k : Int} (h : k = 2 ∨ k = 7) : r5 ts t p k = N7 t p (at3 (d0 t p)) := by
 unfold r5
 rcases h with rfl | rfl
 ·rw [if_neg (by omega), if_pos rfl, X7 _ hok]
 ·rw [if_neg (by omega), if_neg (by omega), if_neg (by omega), if_neg (by omega), if_neg (by omega), if_neg (by omega), X7 _ hok]
theorem ck4 {ts : List KT} {t : Tm} {p : List Nat} (hok : okP t p) : r5 ts t p 3 = N7 t p ((M0 (d0 t p).ref ts).getD j7) := by unfold r5; rw [if_neg (by omega), if_neg (by omega), if_pos rfl, X7 _ hok]
theorem ck3 {ts : List KT} {t : Tm} {p : List Nat} (hok : okP t p) : r5 ts t p 4 = N7 t p (bd4 (d0 t p)) := by unfold r5; rw [if_neg (by omega), if_neg (by omega), if_neg (by omega), if_pos rfl, X7 _ hok]
theorem ck2 {ts : List KT} {t : Tm} {p : List Nat} (hok : okP t p) : r5 ts t p 5 = N7 t p (be4 (d0 t p)) := by unfold r5; rw [if_neg (by omega), if_neg (by omega), if_neg (by omega), if_neg (by omega), if_pos rfl, X7 _ hok]
theorem ck1 {ts : List KT} {t : Tm} {p : List Nat} : r5 ts t p 6 = doM t p := by unfold r5; rw [if_neg (by omega), if_neg (by omega), if_neg (by omega), if_neg (by omega), if_neg (by omega), if_pos rfl]
theorem bx1 {s : List Int} {y : Tm} : ∀ {ts : List KT}, M0 s ts = some y → ∃ (j : Nat) (h : j < ts.length), (ts[j]).2 = y ∧ am8 s ts = (j : Int)
 | [], h => by simp [M0] at h
 | x :: ts, h => by
  simp only [M0] at h
  by_cases hc : s = x.1
  ·rw [if_pos hc] at h
   exact ⟨0, by simp, by simpa using h, by simp [am8, List.findIdx?_cons, hc]⟩
  ·rw [if_neg hc] at h
   obtain ⟨j, h1, h2, h3⟩ := bx1 h
   refine ⟨j + 1, by simp; omega, by simpa using h2, ?_⟩
   have hc' : (x.1 == s) = false := by simpa using fun e => hc e.symm
   simp only [am8] at h3 ⊢
   rw [List.findIdx?_cons, hc']
   cases hq : ts.findIdx? (fun x => x.1 == s) with
   | none => rw [hq] at h3; simp only at h3; omega
   | some i => rw [hq] at h3; simp only at h3 ⊢; simp; omega
theorem bt6 : ∀ {p : List Nat} {t : Tm}, okP t p → ∀ m, okP t (p.take m)
 | [], t, _, m => by simp [okP]
 | j :: q, t, _, 0 => by simp [okP]
 | j :: q, t, ⟨x, hx, h⟩, m + 1 => ⟨x, hx, bt6 h m⟩
set_option maxHeartbeats 4000000 in
theorem aI5 (a b : Pu) (ts : List KT) (hts : ts.length < 2^40) (t : Tm) (p : List Nat) (hg : gdT 0 t) (hok : okP t p) (hf : ag9 t p) (hN : a8 t ≤ 3000) (hz : ∀ i (hi : i < p.length), (d0 t (p.take i)).kind = 12 → p[i] = 0)
  (hb : ∀ x ∈ ts, gdT 0 x.2 ∧ a8 x.2 < 2^28) (kd : Int) (hk : y6 ts t p = kd) (hk7 : kd ≤ 7) :
  FCall Tryz.prog G 116 [.pu (wdP a b ts), .pu (tmc 0 t), iv .i64 kd, .pu (.sl 0 3 (r0 p))] (.pu (tmc 0 (r5 ts t p kd))) := by
 have hpl := I1 hok
 have hw := at6 hg hf
 have hws : a8 (d0 t p) ≤ a8 t := t5
 have hsh := ab1 hw
 have hki := E3 hk
 have hset := fun y => bm2 (G := G) y p t hok (by omega) (by omega)
 have hat := aI4 (G := G) t p hok (by omega)
 obtain ⟨w, hwe⟩ : ∃ w, w = d0 t p := ⟨_, rfl⟩
 rw [← hwe] at hw hws hsh hki hat
 obtain ⟨k, n, r, ks, cs⟩ := w
 refine Fq 142 Tryz.func116 ?_;intro w0 M ρ0 D0
 refine yR ?_;refine p7 SS 4 ?_;refine p7 SS 5 ?_;refine b9 SS 8 ?_;refine b8 [4, 5, 8] ?_;refine Y65 ?_;refine Dq hat ?_;refine ay6 ?_;refine b8 [9] ?_;refine yR ?_;refine b9 SS 10 ?_;refine b8 [10] ?_;refine Y1 ?_;refine Y0 ?_;refine Tri.block ?_;refine Y18 ?_;refine Cq ?_ ?_
 ·intro h0
  have e0 : kd = 1 := by simpa using h0
  obtain ⟨hk4, f, g0, hf3⟩ := hki.1 e0
  obtain ⟨f', x, g0', g1⟩ := aW0 hsh (by omega)
  obtain rfl : f' = f := Option.some.inj (g0'.symm.trans g0)
  obtain ⟨bb, gb⟩ := aN7 (ab1 (L9 hw g0)) (by omega)
  obtain ⟨hgx, hgb⟩ := bR2 hw hk4 g0 hf3 g1 gb
  have hzx := o4 g1
  have hzf := o4 g0
  have hzb := o4 gb
  have hfin := hset (o5 [x] 0 bb)
  rw [show N7 t p (o5 [x] 0 bb) = r5 ts t p kd by rw [e0, ck5 hok, ← hwe]; simp only [bj0, g0, g1, gb]] at hfin
  obtain ⟨fk, fn, fr, fks, fcs⟩ := f'
  simp only [H5] at g0 g1 gb
  refine Y14 ?_;refine b5 (g9 SS (h0 := by omega) (hp := U2 g0)) ?_;refine Y7 ?_;refine b5 (g9 SS (h0 := by omega) (hp := U2 gb)) ?_;refine yL ?_;refine Y7 ?_;refine b5 (g9 SS (h0 := by omega) (hp := U2 g1)) ?_;refine yL ?_;refine Dq (as1 x bb hgx (by omega) 1 hgb (by omega) (by omega)) ?_;refine yS ?_;refine J2 ?_;refine Y65 ?_;refine yL ?_;refine Dq hfin ?_;refine Y23 ?_;refine Rc ?_;exact VImp.refl _
 ·intro h0
  refine Y18 ?_;refine Tri.cutT ⟨[(3, .pu (.sl 0 3 (r0 p))), (4, .ptr 4 [] 26), (5, .ptr 5 [] 32), (8, .ptr 8 [] 32), (9, .ptr 9 [] 32), (10, .ptr 10 [] 32), (21, iv .i64 kd), (36, bv (kd == 2 || kd == 7))], [(4, .var 26 (.pu (wdP a b ts))), (5, .var 32 (.pu (tmc 0 t))), (8, .var 32 (.agg 32 [iv .i64 0, iv .i64 0, .pu (l4 Z32), .nilc, .nilc])), (9, .var 32 (.pu (tmc 0 (.mk k n r ks cs)))), (10, .var 32 (.agg 32 [iv .i64 0, iv .i64 0, .pu (l4 Z32), .nilc, .nilc]))]⟩ ?_ ?_
  ·skip
   refine tQ ?_;refine Cq ?_ ?_
   ·intro h1
    refine Tri.skip ?_;refine i9 ?_ ?_
    ·exact zk0
    ·exact zk1
   ·intro h1
    refine Y9 ?_;refine Y8 ?_;refine i9 ?_ ?_
    ·exact zk0
    ·exact zk1
  ·skip
   refine tQ ?_;refine Cq ?_ ?_
   ·intro h2
    have e2 : kd = 2 ∨ kd = 7 := by simpa using h2
    have hkk : k = 5 ∨ k = 12 := e2.imp hki.2.1 hki.2.2.2.2.2.2.1
    obtain ⟨x, bb, g0, g1⟩ : ∃ x bb, ks[0]? = some x ∧ ks[1]? = some bb := by
     rcases hkk with h | h
     ·exact aW0 hsh (.inr (.inl h))
     ·exact bM9 hsh h
    obtain ⟨hgx, hgb⟩ := bM8 hw hkk g0 g1
    have hzx := o4 (t := .mk k n r ks cs) g0
    have hzb := o4 (t := .mk k n r ks cs) g1
    have hfin := hset (o5 [x] 0 bb)
    rw [show N7 t p (o5 [x] 0 bb) = r5 ts t p kd by rw [cg4 hok e2, ← hwe]; simp only [at3, H5, g0, g1]] at hfin
    refine Y14 ?_;refine b5 (g9 SS (h0 := by omega) (hp := U2 g1)) ?_;refine yL ?_;refine Y7 ?_;refine b5 (g9 SS (h0 := by omega) (hp := U2 g0)) ?_;refine yL ?_;refine Dq (as1 x bb hgx (by omega) 1 hgb (by omega) (by omega)) ?_;refine yS ?_;refine J2 ?_;refine Y65 ?_;refine yL ?_;refine Dq hfin ?_;refine Y23 ?_;refine Rc ?_;exact VImp.refl _
   ·intro h2
    refine Y18 ?_;refine Cq ?_ ?_
    ·intro h3
     have e3 : kd = 3 := by simpa using h3
     obtain ⟨hk6, hbs⟩ := hki.2.2.1 e3
     obtain ⟨y, hy⟩ := Option.isSome_iff_exists.1 hbs
     obtain ⟨j, hj, hjx, hfd⟩ := bx1 hy
     subst hjx
     have hfin := hset ts[j].2
     rw [show N7 t p ts[j].2 = r5 ts t p kd by rw [e3, ck4 hok, ← hwe, hy]; rfl] at hfin
     refine Y14 ?_;refine Y7 ?_;refine Y5 ?_;refine Dq (aV3 ts r hts) ?_;refine b5 (g9 SS (h0 := by rw [show am8 r ts = (j : Int) from hfd]; omega) (hp := by rw [show am8 r ts = (j : Int) from hfd, Int.toNat_natCast]; exact ab4 hj)) ?_;refine Y5 ?_;refine yS ?_;refine J2 ?_;refine Y65 ?_;refine yL ?_;refine Dq hfin ?_;refine Y23 ?_;refine Rc ?_;exact VImp.refl _
    ·intro h3
     refine Y18 ?_;refine Cq ?_ ?_
     ·intro h4
      have e4 : kd = 4 := by simpa using h4
      obtain ⟨x, y, g0, g1⟩ := aW0 hsh (by have := hki.2.2.2.1 e4; omega)
      have hfin := hset (aV8 (ak2 (H9 n x.num y.num)))
      rw [show N7 t p (aV8 (ak2 (H9 n x.num y.num))) = r5 ts t p kd by rw [e4, ck3 hok, ← hwe]; simp only [bd4, g0, g1]; rfl] at hfin
      obtain ⟨xk, xn, xr, xks, xcs⟩ := x
      obtain ⟨yk, yn, yr, yks, ycs⟩ := y
      simp only [H5] at g0 g1
      simp only [aw6] at hfin
      refine Y13 ?_;refine Y7 ?_;refine b5 (g9 SS (h0 := by omega) (hp := U2 g0)) ?_;refine Y5 ?_;refine Y7 ?_;refine b5 (g9 SS (h0 := by omega) (hp := U2 g1)) ?_;refine Y5 ?_;refine Dq (bA2 n xn yn) ?_;refine yP ?_;refine yS ?_;refine J2 ?_;refine Y65 ?_;refine yL ?_;refine Dq hfin ?_;refine Y23 ?_;refine Rc ?_;exact VImp.refl _
     ·intro h4
      refine Y18 ?_;refine Cq ?_ ?_
      ·intro h5
       have e5 : kd = 5 := by simpa using h5
       obtain ⟨hk9, v, g0, hm⟩ := cb5 (w := .mk k n r ks cs) (show z7 ts (l5 t p) p.length (.mk k n r ks cs) = 5 by rw [hwe]; exact hk.trans e5)
       have hv := L9 hw g0
       rw [V0 (by omega), Int.add_zero] at hv
       have hzv := o4 g0
       have hc := hw.2.2.2.2.2
       have hws' := hws
       simp only [a8] at hws' hzv
       rw [show (Tm.mk k n r ks cs).cases = cs from rfl, ap2 hv hc (by omega)] at hm
       obtain ⟨⟨i, l⟩, hfi⟩ := Option.isSome_iff_exists.1 hm
       obtain ⟨j, q, bb, hij, hcj, hl, hlf, hmc⟩ := bg9 hfi
       obtain ⟨hpe, hgb⟩ := aE5 hc _ (List.mem_of_getElem? hcj)
       simp only [csP, csT] at hpe hgb
       have hlb := ap6 q v hlf hpe
       rw [← hl] at hlb
       have hlg : ∀ x ∈ l, gdT 0 x := fun x hx => aW8 q hv x (hl ▸ hx)
       have hlz : ∀ x ∈ l, a8 x ≤ a8 v := fun x hx => at9 q v x (hl ▸ hx)
       have hll : l.length ≤ a8 v := hl ▸ ap7 q v
       have hzb := B0 (List.mem_of_getElem? hcj)
       simp only [p9] at hzb
       have hfin := hset (o5 l 0 bb)
       rw [show N7 t p (o5 l 0 bb) = r5 ts t p kd by rw [e5, ck2 hok, ← hwe]; simp only [be4, g0]; rw [← hmc]; rfl] at hfin
       have hsz : ∀ m, a8 (o5 (l.drop m) 0 bb) ≤ 3000 * 3001 := fun m => by
        have h1 := ac1 (l.drop m) (a8 v) (fun x hx => hlz x (List.mem_of_mem_drop hx)) bb 0
        exact Nat.le_trans h1 (Nat.mul_le_mul (by omega) (by omega))
       have hgd : ∀ m, gdT (l.length : Nat) (o5 (l.drop m) 0 bb) := fun m => aD5 (l.drop m) (fun x hx => hlg x (List.mem_of_mem_drop hx)) bb 0 (l.length : Nat) (by omega) (by omega) (by simp; omega) (af7 (by omega) hgb)
       simp only [H5] at g0
       cases ks with
       | nil => simp at g0
       | cons v' ks' =>
       obtain rfl : v' = v := by simpa using g0
       have hcg : (z8 0 cs)[i]? = some (J3 0 (.mk q bb)) := by rw [hij]; simp [A9, hcj]
       have hfc : FCall Tryz.prog G 91 [.pu (tmc 0 (.mk k n r (v' :: ks') cs))] (.tup [iv .i64 (i : Int), .pu (.sl 0 32 (l8 0 l))]) := by
        have := aH9 (G := G) k n r v' ks' cs (by omega)
        rw [hfi] at this
        exact this
       refine Y4 ?_;refine Dq hfc ?_;refine Y80 ?_;refine Y60 ?_;refine b5 (g9 SS (i := (i : Int)) (h0 := by omega) (hp := by rw [Int.toNat_natCast]; exact hcg)) ?_;refine Y5 ?_;refine Y16 ?_;refine Y1 ?_;refine Y26 ?_;refine Y2 ?_;refine Tri.block (Tri.loopW (σ := {m : Nat // m ≤ l.length}) (fun i => ⟨[(3, .pu (.sl 0 3 (r0 p))), (5, .ptr 5 [] 32), (8, .ptr 8 [] 32), (10, .ptr 10 [] 32), (12, .pu (.sl 0 32 (l8 0 l))), (13, iv .i64 ((i.1 : Int) - 1))], [(5, .var 32 (.pu (tmc 0 t))), (8, .var 32 (.agg 32 [iv .i64 0, iv .i64 0, .pu (l4 Z32), .nilc, .nilc])), (10, .var 32 (.pu (tmc 0 (o5 (l.drop i.1) 0 bb))))]⟩) (fun i => i.1) ⟨l.length, Nat.le_refl _⟩ ?_ ?_ (fun i => ?_))
       ·repeat (first | exact .nil | refine .cons rfl (by first | exact .refl | (focus ((repeat constructor); done)) | (first | (rw [a9, b7 (by omega) (by omega)]; exact .refl) | (rw [List.drop_length, as3]; exact .refl))) ?_)
       ·repeat (first | exact .nil | refine .cons rfl (by first | exact .refl | (focus ((repeat constructor); done)) | (first | (rw [a9, b7 (by omega) (by omega)]; exact .refl) | (rw [List.drop_length, as3]; exact .refl))) ?_)
       refine Y30 ?_;refine Cq ?_ ?_
       ·intro h6
        have h6' : 1 ≤ i.1 := by simp at h6; omega
        obtain ⟨m, hm⟩ := i
        obtain ⟨m, rfl⟩ : ∃ m', m = m' + 1 := ⟨m - 1, by simp only at h6'; omega⟩
        have hidx : ((m + 1 : Nat) : Int) - 1 = (m : Int) := by omega
        have hstep := bP4 (e := (l.length : Nat)) (fun x hx => ⟨hlg x hx, by have := hlz x hx; omega⟩) (by omega) (af7 (by omega) hgb) (by omega) (by omega) hm
        refine Y20 ?_;refine Y4 ?_;refine Y48 ?_;refine b5 (g9 SS (i := ((m + 1 : Nat) : Int) - 1) (h0 := by omega) (hp := by rw [hidx, Int.toNat_natCast]; exact q7 hm)) ?_;refine yL ?_;refine Dq (as1 l[m] (o5 (l.drop (m + 1)) 0 bb) (hlg _ (List.getElem_mem hm)) (by have := hlz _ (List.getElem_mem hm); omega) (l.length : Nat) (hgd (m + 1)) (by have := hsz (m + 1); omega) (by omega)) ?_;refine yS ?_;refine J2 ?_;refine Y40 ?_
        refine ⟨⟨m, by omega⟩, by show m < m + 1; omega, i9 ?_ ?_⟩
        ·repeat (first | exact SubE.nil | refine SubE.cons rfl (by first | rfl | (rw [b7 (by omega) (by omega)]; rfl) | (first | (dsimp only; rw [b7 (by omega) (by omega), show ((m + 1 : Nat) : Int) - 1 - 1 = (m : Int) - 1 by omega]; done) | (dsimp only; rw [hstep]; done) | (dsimp only; rw [b7 (by omega) (by omega), show ((m + 1 : Nat) : Int) - 1 - 1 = (m : Int) - 1 by omega]; rfl) | (dsimp only; rw [hstep]; rfl))) ?_)
        ·repeat (first | exact SubH.nil | refine SubH.cons rfl (by first | rfl | (rw [b7 (by omega) (by omega)]; rfl) | (first | (dsimp only; rw [b7 (by omega) (by omega), show ((m + 1 : Nat) : Int) - 1 - 1 = (m : Int) - 1 by omega]; done) | (dsimp only; rw [hstep]; done) | (dsimp only; rw [b7 (by omega) (by omega), show ((m + 1 : Nat) : Int) - 1 - 1 = (m : Int) - 1 by omega]; rfl) | (dsimp only; rw [hstep]; rfl))) ?_)
       ·intro h6
        have hm0 : i.1 = 0 := by simp at h6; omega
        rw [hm0, List.drop_zero];refine Tri.exit ?_;refine Y65 ?_;refine yL ?_;refine Dq hfin ?_;refine Y23 ?_;refine Rc ?_;exact VImp.refl _
      ·intro h5
       refine Y18 ?_;refine Cq ?_ ?_
       ·intro h7
        have e6 : kd = 6 := by simpa using h7
        obtain ⟨hk11, hn0, x, hx, hxl⟩ := hki.2.2.2.2.2.1 e6
        rw [av9] at hn0 hx
        rw [aw6] at hxl
        obtain ⟨y, hy, hy12, _, hnl⟩ := aE3 _ _ _ hn0
        obtain rfl : y = x := Option.some.inj (hy.symm.trans hx)
        obtain ⟨a0, ha⟩ := aN7 hsh (.inr (.inr hk11))
        have hga := L9 hw ha
        rw [V0 (by simp only [aE1] at hk11 ⊢; omega), Int.add_zero] at hga
        have hnum := hw.2.2.1 hk11
        have hrh := aH8 (G := G) t p hok (by omega) hz
        rw [← hwe, av9] at hrh
        have hdo : doM t p = v8 (l5 t p) p 0 (p8 (l5 t p) r p.length).toNat (o5 [a0, I4 t p (p8 (l5 t p) r p.length).toNat] 0 (y.kids[(2 + n).toNat]'(by omega))) := by
         have hxw := bk1 hok (by omega) hx
         unfold doM
         rw [← hwe]
         simp only [av9, aw6]
         rw [ha, ← hxw, List.getElem?_eq_getElem (by omega)]
        obtain ⟨m, hm⟩ : ∃ m : Nat, p8 (l5 t p) r p.length = (m : Int) := ⟨_, (Int.toNat_of_nonneg hn0).symm⟩
        rw [hm] at hrh hdo hx hnl hn0
        simp only [Int.toNat_natCast] at hdo hx hnl
        have hxw := bk1 hok (by omega) hx
        have hgx := bO2 hg hf m
        rw [← hxw] at hgx
        have hys : a8 y ≤ a8 t := by rw [hxw]; exact t5
        have hlt : (2 + n).toNat < y.kids.length := by omega
        obtain ⟨b0, hb0⟩ : ∃ b0, b0 = y.kids[(2 + n).toNat] := ⟨_, rfl⟩
        have hbk : y.kids[(2 + n).toNat]? = some b0 := by rw [hb0]; exact List.getElem?_eq_getElem hlt
        rw [← hb0] at hdo
        have hgb := L9 hgx hbk
        rw [hy12, be1 (by omega)] at hgb
        have hbs := o4 hbk
        have has := o4 ha
        have hgk := bx4 hg hok hf (n := m) (by omega)
        have hokd := (aG0 m hok (by omega)).2
        rw [← hxw] at hokd
        have hhole : v8 (l5 t p) p m p.length V2 = N7 y (p.drop m) V2 := by rw [hxw]; exact aS2 V2 hok (by omega)
        have hbz : a8 (I4 t p m) ≤ 3002 := by
         have := ac7 hok m p.length V2 (Nat.le_refl _)
         simp only [I4, a8, d7, f6]
         simp only [V2, a8, d7, f6] at this ⊢
         omega
        have hback : I4 t p m = .mk 3 0 Z32 [N7 y (p.drop m) V2] [] := by unfold I4; rw [hhole]
        have hput := aD4 a0 [I4 t p m] (by simp) (fun x hx => by simp at hx; subst hx; exact ⟨hgk, by omega⟩) b0 0 2 (by simpa using hgb) (by omega) (by omega) (by omega)
        have hokt := bt6 hok m
        have hat2 := aI4 (G := G) t (p.take m) hokt (by simp; omega)
        rw [← hxw] at hat2
        have hpt : r0 (p.take m) = (r0 p).take m := by simp [r0, List.map_take]
        have hpd : r0 (p.drop m) = (r0 p).drop m := by simp [r0, List.map_drop]
        rw [hpt] at hat2
        have hsh2 := bm2 (G := G) V2 (p.drop m) y hokd (by omega) (by simp; omega)
        rw [hpd] at hsh2
        have hi1 := as1 (G := G) (I4 t p m) b0 hgk (by omega) 2 (by simpa using hgb) (by omega) (by omega)
        rw [hback] at hi1
        have hpz : a8 (o5 [I4 t p m] 0 b0) ≤ 3000 * 3003 := Nat.le_trans (ac1 [I4 t p m] 3002 (fun x hx => by simp at hx; subst hx; exact hbz) b0 0) (Nat.mul_le_mul (by omega) (by omega))
        have hi2 := as1 (G := G) a0 (o5 [I4 t p m] 0 b0) hga (by omega) 1 (aD5 [I4 t p m] (fun x hx => by simp at hx; subst hx; exact hgk) b0 0 1 (by omega) (by omega) (by simp; omega) (by simpa using hgb)) (by omega) (by omega)
        rw [← hput] at hi2
        rw [hback] at hi2 hdo
        have hfin := bm2 (G := G) (o5 [a0, .mk 3 0 Z32 [N7 y (p.drop m) V2] []] 0 b0) (p.take m) t hokt (by omega) (by simp; omega)
        rw [show N7 t (p.take m) (o5 [a0, .mk 3 0 Z32 [N7 y (p.drop m) V2] []] 0 b0) = r5 ts t p kd by rw [e6, ck1, hdo, aj4 _ _ hok (by omega)], hpt] at hfin
        obtain ⟨yk, yn, yr, yks, ycs⟩ := y
        simp only [H5] at hbk ha hlt
        have hwn : IntKind.wrap .i64 (2 + n) = 2 + n := b7 (by omega) (by omega)
        refine Y65 ?_;refine Dq hrh ?_;refine Y8 ?_;refine Y4 ?_;refine Y48 ?_;refine b5 (ab5 SS (ps := r0 p) (r := m) (by rw [t8]; omega)) ?_;refine Dq hat2 ?_;refine b9 SS 15 ?_;refine yS ?_;refine A5 [15] ?_;refine Y4 ?_;refine Y48 ?_;refine b5 (ah6 SS (ps := r0 p) (l := m) (by rw [t8]; omega)) ?_;refine yP ?_;refine Dq hsh2 ?_;refine b9 SS 16 ?_;refine yS ?_;refine A5 [16] ?_;refine Y4 ?_;refine Y81 ?_;refine b9 SS 17 ?_;refine yS ?_;refine b8 [17] ?_;refine Y14 ?_;refine Y54 ?_;refine b5 (g9 SS (h0 := by rw [hwn]; omega) (hp := by rw [hwn]; exact U2 hbk)) ?_;refine Y82 ?_
        refine Dq hi1 ?_;refine Y7 ?_;refine b5 (g9 SS (h0 := by omega) (hp := U2 ha)) ?_;refine yL ?_;refine Dq hi2 ?_;refine yS ?_;refine J2 ?_;refine Y17 ?_;refine b5 (ab5 SS (ps := r0 p) (r := m) (by rw [t8]; omega)) ?_;refine Y8 ?_;refine Y65 ?_;refine yL ?_;refine Dq hfin ?_;refine Y23 ?_;refine Rc ?_;exact VImp.refl _
       ·intro h7;exfalso
        have := hki.2.2.2.2.2.2.2.1
        simp at h0 h2 h3 h4 h5 h7
        omega
end
def bf2 (k n : Int) (r : List Int) (nc : Nat) : Prop :=
 E5 (E7 k) (G1 k) (A8 k) n r nc = false ∧ nc ≤ 8 ∧ (k == 10 && J0 n 1 5) = false ∧ ((k == 2 || k == 8 || k == 11) && J0 n 0 (if k == 8 || k == 11 then 7 else 1073741824)) = false
mutual
def lcT : Tm → Prop
 | .mk k n r ks cs => bf2 k n r cs.length ∧ lcK ks ∧ lcC cs
def lcK : List Tm → Prop
 | [] => True
 | t :: ts => lcT t ∧ lcK ts
def lcC : List Cs → Prop
 | [] => True
 | c :: cs => lcS c ∧ lcC cs
def lcS : Cs → Prop
 | .mk _ t => lcT t
end
theorem aZ9 {m d b k n : Int} {r : List Int} {nk nc : Nat} (h : f8 m d b k n r nk nc = 0) : bf2 k n r nc := by
 unfold f8 at h
 by_cases h0 : J0 k 1 12 = true
 ·rw [if_pos h0] at h; omega
 rw [if_neg h0] at h
 by_cases h1 : E5 (E7 k) (G1 k) (A8 k) n r nc = true
 ·rw [if_pos h1] at h; omega
 rw [if_neg h1] at h
 by_cases h2 : (!y7 k nk || decide ((nc : Int) > 8)) = true
 ·rw [if_pos h2] at h; omega
 rw [if_neg h2] at h
 by_cases h3 : (k == 10 && J0 n 1 5) = true
 ·rw [if_pos h3] at h; omega
 rw [if_neg h3] at h
 by_cases h4 : (k == 1 && !S8 d n b) = true
 ·rw [if_pos h4] at h; omega
 rw [if_neg h4] at h
 by_cases h5 : (k == 7 && (decide (n < 0) || decide (n ≥ m))) = true
 ·rw [if_pos h5] at h; omega
 rw [if_neg h5] at h
 by_cases h6 : ((k == 2 || k == 8 || k == 11) && J0 n 0 (if k == 8 || k == 11 then 7 else 1073741824)) = true
 ·rw [if_pos h6] at h; omega
 simp only [Bool.or_eq_true, not_or, Bool.not_eq_true, decide_eq_true_eq] at h2
 exact ⟨by simpa using h1, by omega, by simpa using h3, by simpa using h6⟩
theorem bf1 {m d b k n : Int} {r : List Int} {nk nc : Nat} (h : bf2 k n r nc) (h1 : 1 ≤ k ∧ k ≤ 12 ∧ k ≠ 7) (h2 : y7 k nk = true) (h3 : k = 1 → 0 ≤ n ∧ n < b) : f8 m d b k n r nk nc = 0 := by
 obtain ⟨g1, g2, g3, g4⟩ := h
 unfold f8
 rw [if_neg (by simp [J0]; omega), if_neg (by rw [g1]; decide), if_neg (by rw [h2]; simp; omega), if_neg (by rw [g3]; decide)]
 rw [if_neg (by
  by_cases e : k = 1
  ·have := h3 e
   simp [e, S8]; omega
  ·simp [e]), if_neg (by simp; omega), if_neg (by rw [g4]; decide)]
mutual
theorem aY4 {m d : Int} : ∀ {t : Tm} {b : Int}, H8 m d b t = 0 → lcT t
 | .mk k n r ks cs, b, h => by
  simp only [H8] at h
  obtain ⟨h1, h⟩ := B1 h
  obtain ⟨_, h⟩ := B1 h
  obtain ⟨h2, h3⟩ := B1 h
  exact ⟨aZ9 h1, bj3 h2, bj6 h3⟩
theorem bj3 {m d : Int} : ∀ {ks : List Tm} {b k : Int} {i : Nat}, S4 m d b k i ks = 0 → lcK ks
 | [], _, _, _, _ => trivial
 | t :: ts, b, k, i, h => by
  simp only [S4] at h
  obtain ⟨h1, h2⟩ := B1 h
  exact ⟨aY4 h1, bj3 h2⟩
theorem bj6 {m d : Int} : ∀ {cs : List Cs} {b : Int}, T7 m d b cs = 0 → lcC cs
 | [], _, _ => trivial
 | .mk q t :: cs, b, h => by
  simp only [T7, Q8] at h
  obtain ⟨h1, h2⟩ := B1 h
  exact ⟨aY4 (t := t) h1, bj6 h2⟩
end
mutual
theorem aW5 {m d : Int} : ∀ {t : Tm} {b : Int}, gdT b t → lcT t → H8 m d b t = 0
 | .mk k n r ks cs, b, h, hl => by
  obtain ⟨g1, g2, g3, g4, g5, g6⟩ := h
  simp only [H8, bf1 hl.1 g1 g2 g4, bf8 g5 hl.2.1, bf9 g6 hl.2.2]
  have : m6 (fun c => A4 (csP c)) cs = 0 := bg1 g6
  rw [this]; rfl
theorem bf8 {m d : Int} : ∀ {ks : List Tm} {b k : Int} {i : Nat}, gdK b k i ks → lcK ks → S4 m d b k i ks = 0
 | [], _, _, _, _, _ => rfl
 | t :: ts, b, k, i, h, hl => by
  simp only [S4, aW5 h.1 hl.1, bf8 h.2 hl.2]; rfl
theorem bf9 {m d : Int} : ∀ {cs : List Cs} {b : Int}, gdC b cs → lcC cs → T7 m d b cs = 0
 | [], _, _, _ => rfl
 | .mk q t :: cs, b, h, hl => by
  have h1 : H8 m d (b + m7 q) t = 0 := aW5 h.1.2 hl.1
  simp only [T7, Q8, h1, bf9 h.2 hl.2]; rfl
theorem bg1 : ∀ {cs : List Cs} {b : Int}, gdC b cs → m6 (fun c => A4 (csP c)) cs = 0
 | [], _, _ => rfl
 | .mk q t :: cs, b, h => by
  have h1 : A4 q = 0 := h.1.1
  simp only [m6, csP, h1, if_true]
  exact bg1 h.2
end
theorem ab0 : lcT j7 := by simp [j7, lcT, lcK, lcC, bf2, E5, J0]
theorem cf7 : lcT V2 := by simp [V2, lcT, lcK, lcC, bf2, E5, J0]
theorem ck8 (x : Int) : 0 ≤ ak2 x ∧ ak2 x ≤ 1073741824 := by unfold ak2; omega
theorem bV8 (op a b : Int) : lcT (as4 op a b) := by
 have := ck8 (H9 op a b)
 unfold as4 aV8
 generalize ak2 (H9 op a b) = x at *
 simp [lcT, lcK, lcC, bf2, E5, J0, E7]
 omega
theorem bu5 : ∀ {ks : List Tm}, lcK ks → ∀ x ∈ ks, lcT x
 | _ :: _, h, x, hx => by
  rcases List.mem_cons.1 hx with rfl | hx
  ·exact h.1
  ·exact bu5 h.2 x hx
theorem aw2 (vs : List Tm) : ∀ (cs : List Cs) (d : Int), (E8 vs d cs).length = cs.length
 | [], _ => rfl
 | .mk q t :: cs, d => by simp [E8, aw2 vs cs d]
mutual
theorem aL0 (vs : List Tm) (hv : ∀ v ∈ vs, lcT v) : ∀ (t : Tm) (d : Int), lcT t → lcT (o5 vs d t)
 | .mk k n r ks cs, d, h => by
  obtain ⟨h1, h3, h4⟩ := h
  have k1 := bu1 vs hv ks d k 0 h3
  have k2 := bu2 vs hv cs d h4
  simp only [o5]
  split
  ·rename_i hC
   split
   ·exact hv _ (List.getElem_mem _)
   ·refine ⟨?_, k1, k2⟩
    rw [aw2]
    have e := hC.1
    subst e
    simpa [bf2, E5, E7] using h1
  ·exact ⟨by rw [aw2]; exact h1, k1, k2⟩
theorem bu1 (vs : List Tm) (hv : ∀ v ∈ vs, lcT v) : ∀ (ks : List Tm) (d k : Int) (i : Nat), lcK ks → lcK (G5 vs d k i ks)
 | [], _, _, _, _ => trivial
 | t :: ts, d, k, i, h => ⟨aL0 vs hv t _ h.1, bu1 vs hv ts d k (i + 1) h.2⟩
theorem bu2 (vs : List Tm) (hv : ∀ v ∈ vs, lcT v) : ∀ (cs : List Cs) (d : Int), lcC cs → lcC (E8 vs d cs)
 | [], _, _ => trivial
 | c :: cs, d, h => ⟨bV7 vs hv c d h.1, bu2 vs hv cs d h.2⟩
theorem bV7 (vs : List Tm) (hv : ∀ v ∈ vs, lcT v) : ∀ (c : Cs) (d : Int), lcS c → lcS (aw0 vs d c)
 | .mk q t, d, h => aL0 vs hv t _ h
end
theorem X5 {t x : Tm} {i : Nat} (h : lcT t) (hx : t.kids[i]? = some x) : lcT x := by
 obtain ⟨k, n, r, ks, cs⟩ := t
 exact bu5 h.2.1 _ (List.mem_of_getElem? hx)
theorem am0 : ∀ {t : Tm} {p : List Nat}, lcT t → lcT (d0 t p)
 | t, [], h => h
 | t, i :: p, h => by
  simp only [d0]
  split
  ·rename_i x hx; exact am0 (X5 h hx)
  ·exact h
theorem bu4 : ∀ {ks : List Tm} {j : Nat} {x : Tm}, lcK ks → lcT x → lcK (ks.set j x)
 | [], _, _, _, _ => trivial
 | t :: ts, 0, x, h, hx => ⟨hx, h.2⟩
 | t :: ts, j + 1, x, h, hx => ⟨h.1, bu4 h.2 hx⟩
theorem cf8 {t x : Tm} {j : Nat} (h : lcT t) (hx : lcT x) : lcT (O3 t j x) := by
 obtain ⟨k, n, r, ks, cs⟩ := t
 exact ⟨h.1, bu4 h.2.1 hx, h.2.2⟩
theorem aE0 {t : Tm} {p : List Nat} (hok : okP t p) (ht : lcT t) (lo : Nat) : ∀ (hi : Nat) (x : Tm), hi ≤ p.length → lcT x → lcT (v8 (l5 t p) p lo hi x)
 | 0, x, _, h => h
 | n + 1, x, hn, h => by
  simp only [v8]
  split
  ·exact h
  ·rw [B3 hok (by omega), List.getElem?_eq_getElem (show n < p.length by omega)]
   exact aE0 hok ht lo n _ (by omega) (cf8 (am0 ht) h)
mutual
theorem bu3 : ∀ (p : Pat) (v : Tm), lcT v → ∀ x ∈ (p5 p v).1, lcT x
 | .mk k n r ks, v, h, x, hx => by
  simp only [p5] at hx
  split at hx
  ·simp at hx; rw [hx]; exact h
  ·split at hx
   ·simp at hx
   ·split at hx
    ·split at hx
     ·simp at hx
     ·obtain ⟨k', n', r', ks', cs'⟩ := v
      exact bf4 ks ks' h.2.1 x hx
    ·simp at hx
theorem bf4 : ∀ (ps : List Pat) (vs : List Tm), lcK vs → ∀ x ∈ (r8 ps vs).1, lcT x
 | [], vs, _, x, hx => by simp [r8] at hx
 | _ :: _, [], _, x, hx => by simp [r8] at hx
 | p :: ps, v :: vs, h, x, hx => by
  simp only [r8, J1] at hx
  split at hx
  ·rcases List.mem_append.1 hx with h' | h'
   ·exact bu3 p v h.1 x h'
   ·exact bf4 ps vs h.2 x h'
  ·simp at hx
end
theorem bf3 : ∀ (cs : List Cs) (v : Tm), lcC cs → lcT v → lcT (u7 cs v)
 | [], v, _, _ => ab0
 | .mk q b :: cs, v, h, hv => by
  simp only [u7]
  split
  ·exact aL0 _ (bu3 q v hv) b 0 h.1
  ·exact bf3 cs v h.2 hv
theorem bN1 {s : List Int} {y : Tm} : ∀ {ts : List KT}, (∀ x ∈ ts, lcT x.2) → M0 s ts = some y → lcT y
 | [], _, h => by cases h
 | x :: ts, h, hy => by
  simp only [M0] at hy
  split at hy
  ·simp at hy; rw [← hy]; exact h x (by simp)
  ·exact bN1 (fun z hz => h z (by simp [hz])) hy
theorem bv7 {ts : List KT} (hb : ∀ x ∈ ts, lcT x.2) {t0 : Tm} {p : List Nat} (hs : lcT t0) (hok : okP t0 p) (k : Int) : lcT (r5 ts t0 p k) := by
 have hw := am0 (p := p) hs
 have here : ∀ y, lcT y → lcT (I0 t0 p y) := fun y hy => aE0 hok hs 0 _ _ (Nat.le_refl _) hy
 have hput : ∀ x y, lcT x → lcT y → lcT (o5 [x] 0 y) := fun x y hx hy => aL0 _ (fun v hv => by simp at hv; rw [hv]; exact hx) _ _ hy
 have hlet : lcT (at3 (d0 t0 p)) := by
  unfold at3
  split
  ·rename_i x b h1 h2; exact hput _ _ (X5 hw h1) (X5 hw h2)
  ·exact ab0
 unfold r5
 split
 ·refine here _ ?_
  unfold bj0
  split
  ·rename_i f x h1 h2
   split
   ·rename_i b h3; exact hput _ _ (X5 hw h2) (X5 (X5 hw h1) h3)
   ·exact ab0
  ·exact ab0
 split
 ·exact here _ hlet
 split
 ·refine here _ ?_
  cases hy : M0 (d0 t0 p).ref ts with
  | none => exact ab0
  | some y => exact bN1 hb hy
 split
 ·refine here _ ?_
  unfold bd4
  split
  ·exact bV8 _ _ _
  ·exact ab0
 split
 ·refine here _ ?_
  unfold be4
  split
  ·rename_i v hv
   have hv' := X5 hw hv
   generalize d0 t0 p = w at hw
   obtain ⟨k, n, r, ks, cs⟩ := w
   exact bf3 _ _ hw.2.2 hv'
  ·exact ab0
 split
 ·unfold doM
  split
  ·rename_i a b h1 h2
   have hlt := af5 (l5 t0 p) (d0 t0 p).ref p.length
   refine aE0 hok hs 0 _ _ (by omega) (aL0 _ (fun v hv => ?_) _ _ (X5 (am0 hs) h2))
   simp at hv
   rcases hv with rfl | rfl
   ·exact X5 hw h1
   ·refine ⟨by simp [bf2, E5, J0], ⟨aE0 hok hs _ _ _ (Nat.le_refl _) cf7, trivial⟩, trivial⟩
  ·exact ab0
 ·exact here _ hlet
theorem au6 {t : Tm} {d m : Int} (h : n6 t d m = 0) : lcT t := by
 unfold n6 at h
 split at h
 ·cases h
 ·exact aY4 h
structure Rt (t : Tm) : Prop where
 gd : gdT 0 t
 lc : lcT t
theorem Z4 {t : Tm} (h : n6 t 0 0 = 0) (hr : rgT t) : Rt t := ⟨bi3 h hr, au6 h⟩
theorem Rt.check {t : Tm} (h : Rt t) (d m : Int) : n6 t d m = if (m2 300 60 1 0 t).1 then 11 else 0 := by
 unfold n6
 rw [aW5 h.gd h.lc]
theorem bX3 {ts : List KT} (hb : ∀ x ∈ ts, Rt x.2) {t : Tm} (h : Rt t) (hN : a8 t < 2^28) {k : Int} (hk : y6 ts t (c9 t) = k) (hk7 : k ≤ 7) : Rt (r5 ts t (c9 t) k) :=
 ⟨aX5 h.gd (F7 (ab1 h.gd)) (N5 t) hN (fun x hx => (hb x hx).gd) hk hk7, bv7 (fun x hx => (hb x hx).lc) h.lc (F7 (ab1 h.gd)) k⟩
section
variable {G : List (Nat × TypeId × Pu)}
abbrev aG8 (m : Nat) (x : Tm × Int) : PV := .tup [.pu (tmc m x.1), iv .i64 x.2]
theorem aP2 {P : Program} {m n : Nat} (h : n ≤ m) (x : Tm × Int) : VImp P (aG8 m x) (aG8 n x) := VImps.tup (.cons (A0 h _).imp (.cons (VImp.refl _) .nil)) (O7 rfl)
def L6 (ts : List KT) (t : Tm) : Tm × Int :=
 if D3 t = true then (j7, 6) else if 7 < y6 ts t (c9 t) then (j7, 10) else if (m2 300 60 1 0 (n5 ts t)).1 = true then (j7, 11) else (n5 ts t, 0)
theorem ai3 (ts : List KT) (t : Tm) : ∃ kd p, L7 ts t = (kd, p) ∧ (kd = 0 → D3 t = true) ∧ (kd ≠ 0 → D3 t = false ∧ y6 ts t (c9 t) = kd ∧ p = c9 t) := by
 have hk := (E3 (show z7 ts (l5 t (c9 t)) (c9 t).length (d0 t (c9 t)) = y6 ts t (c9 t) from rfl)).2.2.2.2.2.2.2.1
 unfold L7
 cases hv : D3 t
 ·exact ⟨y6 ts t (c9 t), c9 t, rfl, fun h => by omega, fun _ => ⟨rfl, rfl, rfl⟩⟩
 ·exact ⟨0, [], rfl, fun _ => rfl, fun h => absurd rfl h⟩
set_option maxHeartbeats 1000000 in
theorem bT8 (a b : Pu) (ts : List KT) (hts : ts.length < 2^40) (hb : ∀ x ∈ ts, gdT 0 x.2 ∧ a8 x.2 ≤ 300) (t : Tm) (hg : gdT 0 t) (hN : a8 t ≤ 3000) :
  FCall Tryz.prog G 47 [.pu (wdP a b ts), .pu (tmc 0 t)] (aG8 0 (L6 ts t)) := by
 have hok := F7 (ab1 hg)
 have hnx := aD2 (G := G) a b ts hts t hg (by omega)
 obtain ⟨kd, p, hkp, h0v, h1v⟩ := ai3 ts t
 rw [hkp] at hnx
 refine Fq 34 Tryz.func47 ?_;intro w0 M ρ0 D0
 refine Y57 ?_;refine b9 SS 4 ?_;refine yB ?_;refine b8 [2, 3, 4] ?_;refine Y22 ?_;refine Dq hnx ?_;refine Y28 ?_;refine yA ?_;refine Y52 ?_;refine Cq ?_ ?_
 ·intro h0
  have hfin : L6 ts t = (j7, 6) := by rw [L6, if_pos (h0v (by simpa using h0))]
  refine ay4 ?_;exact Tri.ret ⟨.inr rfl, q8 rfl j6 ((by rw [hfin]; exact ToPu.imp (by unfold j7; repeat constructor))) b4 ((by rw [hfin]; exact VImp.refl _))⟩
 ·intro h0
  obtain ⟨hv, hk, hp⟩ := h1v (by simpa using h0)
  subst hp;refine Tri.skip ?_;refine Y30 ?_;refine Cq ?_ ?_
  ·intro h1
   have hfin : L6 ts t = (j7, 10) := by rw [L6, if_neg (by rw [hv]; decide), hk, if_pos (by simpa using h1)]
   refine ay4 ?_;exact Tri.ret ⟨.inr rfl, q8 rfl j6 ((by rw [hfin]; exact ToPu.imp (by unfold j7; repeat constructor))) b4 ((by rw [hfin]; exact VImp.refl _))⟩
  ·intro h1
   have hk7 : kd ≤ 7 := by simpa using h1
   have haf := aI5 (G := G) a b ts hts t (c9 t) hg hok (N5 t) hN (W6 _ t (Nat.le_refl _)) (fun x hx => ⟨(hb x hx).1, by have := (hb x hx).2; omega⟩) kd hk hk7
   have hyz := au3 (fun x hx => (hb x hx).2) hok hN kd
   have hne : r5 ts t (c9 t) kd = n5 ts t := by unfold n5; rw [hk]
   rw [hne] at haf hyz
   have hri := ab9 (G := G) (n5 ts t) (by omega)
   have hst : L6 ts t = if (m2 300 60 1 0 (n5 ts t)).1 = true then (j7, 11) else (n5 ts t, 0) := by rw [L6, if_neg (by rw [hv]; decide), hk, if_neg (by omega)]
   generalize (m2 300 60 1 0 (n5 ts t)).1 = lb at hri hst
   refine Tri.skip ?_;refine Y22 ?_;refine Y48 ?_;refine Dq haf ?_;refine b9 SS 8 ?_;refine yS ?_;refine b8 [8] ?_;refine Y4 ?_;refine Dq hri ?_;refine Y52 ?_;refine Cq ?_ ?_
   ·intro h2
    have hlb : lb = true := by cases lb <;> simp at h2 ⊢
    subst hlb
    rw [if_pos rfl] at hst
    refine Y51 ?_;refine yM ?_;refine yS ?_;refine Y2 ?_;exact Tri.ret ⟨.inr rfl, q8 rfl j6 ((by rw [hst]; exact ToPu.imp (by unfold j7; repeat constructor))) b4 ((by rw [hst]; exact VImp.refl _))⟩
   ·intro h2
    have hlb : lb = false := by cases lb <;> simp at h2 ⊢
    subst hlb
    rw [if_neg (by decide)] at hst
    refine Y72 ?_;refine Y56 ?_;exact Tri.ret ⟨.inr rfl, q8 rfl j6 ((by rw [hst]; exact VImp.refl _)) b4 ((by rw [hst]; exact VImp.refl _))⟩
def H0 (ts : List KT) : Nat → Tm → Option (List Tm)
 | 0, _ => some []
 | n + 1, t => if D3 t = true ∨ 7 < y6 ts t (c9 t) then some [] else if (m2 300 60 1 0 (n5 ts t)).1 = true then none else (H0 ts n (n5 ts t)).map (n5 ts t :: ·)
theorem ao0 {ts : List KT} {n : Nat} {t : Tm} (h : D3 t = true ∨ 7 < y6 ts t (c9 t)) : H0 ts n t = some [] := by
 cases n with
 | zero => rfl
 | succ n => rw [H0, if_pos h]
def R6 (l : List Tm) : Option (List Tm) → List Tm × Int
 | some r => (l ++ r, 0)
 | none => ([], 11)
theorem aG6 (l : List Tm) (x : Tm) (o : Option (List Tm)) : R6 l (o.map (x :: ·)) = R6 (l ++ [x]) o := by cases o <;> simp [R6]
def H4 (ts : List KT) (t : Tm) (most : Int) : List Tm × Int := if most < 0 ∨ 40 < most then ([], 3) else R6 [t] (H0 ts most.toNat t)
abbrev aT7 (m : Nat) (x : List Tm × Int) : PV := .tup [.pu (.sl m 32 (l8 m x.1)), iv .i64 x.2]
theorem bk5 {P : Program} {m n : Nat} (h : n ≤ m) (x : List Tm × Int) : VImp P (aT7 m x) (aT7 n x) := VImps.tup (.cons (Low.imp (.sl h (ab6 h _))) (.cons (VImp.refl _) .nil)) (O7 rfl)
set_option maxHeartbeats 1000000 in
theorem bI7 (a b : Pu) (ts : List KT) (hts : ts.length < 2^40) (hb : ∀ x ∈ ts, gdT 0 x.2 ∧ a8 x.2 ≤ 300) (t0 : Tm) (hg : gdT 0 t0) (hN : a8 t0 ≤ 3000) (most : Int) :
  FCall Tryz.prog G 48 [.pu (wdP a b ts), .pu (tmc 0 t0), iv .i64 most] (aT7 0 (H4 ts t0 most)) := by
 refine Fq 51 Tryz.func48 ?_;intro w0 M ρ0 D0
 refine Y89 ?_;refine yB ?_;refine yB ?_;refine b8 [3, 4] ?_;refine Y58 ?_;refine Y92 ?_;refine Cq ?_ ?_
 ·intro h0
  have hfin : H4 ts t0 most = ([], 3) := by rw [H4, if_pos (by simpa using h0)]
  refine aq5 ?_;exact Tri.ret ⟨.inr rfl, q8 rfl b4 ((by rw [hfin]; exact ToPu.imp (by repeat constructor))) b4 ((by rw [hfin]; exact VImp.refl _))⟩
 ·intro h0
  have hm0 : ¬ (most < 0 ∨ 40 < most) := by simp at h0; omega
  obtain ⟨mm, hmm⟩ : ∃ mm : Nat, most = mm := ⟨most.toNat, by omega⟩
  subst hmm
  have hst : H4 ts t0 mm = R6 [t0] (H0 ts mm t0) := by rw [H4, if_neg hm0, Int.toNat_natCast]
  refine Y72 ?_;refine yZ ?_;refine Y2 ?_;refine Tri.block (Tri.loopW (σ := {q : List Tm × Tm // 1 ≤ q.1.length ∧ q.1.length ≤ mm + 1 ∧ gdT 0 q.2 ∧ a8 q.2 ≤ 3000 ∧ H4 ts t0 mm = R6 q.1 (H0 ts (mm + 1 - q.1.length) q.2)}) (fun i => ⟨[(2, iv .i64 mm), (3, .ptr 3 [] 26), (4, .ptr 4 [] 32), (8, .ow 0 32 (l8 0 i.1.1))], [(3, .var 26 (.pu (wdP a b ts))), (4, .var 32 (.pu (tmc 0 i.1.2)))]⟩) (fun i => mm + 1 - i.1.1.length) ⟨([t0], t0), by simp, by simp, hg, hN, by simpa using hst⟩ ?_ ?_ (fun i => ?_))
  ·exact zk8
  ·exact zk8
  obtain ⟨⟨out, t⟩, ho1, ho2, hgt, hzt, hinv⟩ := i
  dsimp only at ho1 ho2 hgt hzt hinv ⊢
  refine Y1 ?_;refine yC ?_;refine yM ?_;refine yI ?_;refine Y0 ?_;refine Cq ?_ ?_
  ·intro h1
   have hle : out.length ≤ mm := by rw [a9] at h1; simpa using h1
   obtain ⟨nn, hnn⟩ : ∃ nn, mm + 1 - out.length = nn + 1 := ⟨mm - out.length, by omega⟩
   rw [hnn] at hinv
   have hok := F7 (ab1 hgt)
   have hnx := aD2 (G := G) a b ts hts t hgt (by omega)
   obtain ⟨kd, p, hkp, h0v, h1v⟩ := ai3 ts t
   rw [hkp] at hnx
   refine Y20 ?_;refine Y22 ?_;refine Dq hnx ?_;refine Y80 ?_;refine Y58 ?_;refine Y92 ?_;refine Cq ?_ ?_
   ·intro h2
    have hfin : H4 ts t0 mm = (out, 0) := by
     have : D3 t = true ∨ 7 < y6 ts t (c9 t) := by
      by_cases h00 : kd = 0
      ·exact .inl (h0v h00)
      ·exact .inr (by rw [(h1v h00).2.1]; simp at h2; omega)
     rw [hinv, ao0 this]; simp [R6]
    refine Tri.exit ?_;refine Y1 ?_;refine yA ?_;refine Y25 ?_;exact Tri.ret ⟨.inr rfl, q8 rfl b4 ((by rw [hfin]; exact ToPu.imp (by repeat constructor))) b4 ((by rw [hfin]; exact VImp.refl _))⟩
   ·intro h2
    have h2' : kd ≠ 0 ∧ kd ≤ 7 := by simp at h2; omega
    obtain ⟨hv, hk, hp⟩ := h1v h2'.1
    subst hp
    have haf := aI5 (G := G) a b ts hts t (c9 t) hgt hok (N5 t) hzt (W6 _ t (Nat.le_refl _)) (fun x hx => ⟨(hb x hx).1, by have := (hb x hx).2; omega⟩) kd hk h2'.2
    have hyz := au3 (fun x hx => (hb x hx).2) hok hzt kd
    have hyg := aX5 hgt hok (N5 t) (by omega) (fun x hx => (hb x hx).1) hk h2'.2
    have hne : r5 ts t (c9 t) kd = n5 ts t := by unfold n5; rw [hk]
    rw [hne] at haf hyz hyg
    have hri := ab9 (G := G) (n5 ts t) (by omega)
    have hlz := Q5 (mn := 300) (md := 60) (t := n5 ts t) (d := 1) (c := 0) (by omega)
    have hst2 : H0 ts (nn + 1) t = if (m2 300 60 1 0 (n5 ts t)).1 = true then none else (H0 ts nn (n5 ts t)).map (n5 ts t :: ·) := by rw [H0, if_neg (by rw [hv, hk]; simp; omega)]
    generalize (m2 300 60 1 0 (n5 ts t)).1 = lb at hri hst2 hlz
    refine Tri.skip ?_;refine Y22 ?_;refine Y48 ?_;refine Dq haf ?_;refine Y16 ?_;refine Y4 ?_;refine Dq hri ?_;refine Y52 ?_;refine Cq ?_ ?_
    ·intro h3
     have hlb : lb = true := by cases lb <;> simp at h3 ⊢
     subst hlb
     have hfin : H4 ts t0 mm = ([], 11) := by rw [hinv, hst2, if_pos rfl]; rfl
     refine Y1 ?_;refine yB ?_;refine Y2 ?_;exact Tri.ret ⟨.inr rfl, q8 rfl b4 ((by rw [hfin]; exact ToPu.imp (by repeat constructor))) b4 ((by rw [hfin]; exact VImp.refl _))⟩
    ·intro h3
     have hlb : lb = false := by cases lb <;> simp at h3 ⊢
     subst hlb
     have hz9 := hlz rfl
     have hnext : 1 ≤ (out ++ [n5 ts t]).length ∧ (out ++ [n5 ts t]).length ≤ mm + 1 ∧ gdT 0 (n5 ts t) ∧ a8 (n5 ts t) ≤ 3000 ∧ H4 ts t0 mm = R6 (out ++ [n5 ts t]) (H0 ts (mm + 1 - (out ++ [n5 ts t]).length) (n5 ts t)) := by
      refine ⟨by simp, by simp; omega, hyg, by omega, ?_⟩
      rw [hinv, hst2, if_neg (by decide), aG6, show mm + 1 - (out ++ [n5 ts t]).length = nn by simp; omega]
     refine Y87 ?_;refine yL ?_;refine yZ ?_;refine aH4 8 ?_ ?_
     ·simp [a9]; omega
     refine Y8 ?_
     refine ⟨⟨(out ++ [n5 ts t], n5 ts t), hnext⟩, by simp; omega, i9 ?_ ?_⟩
     ·repeat (first | exact SubE.nil | refine SubE.cons rfl (by first | rfl | (rw [b7 (by omega) (by omega)]; rfl) | (rw [l6, l6, List.map_append]; rfl)) ?_)
     ·repeat (first | exact SubH.nil | refine SubH.cons rfl (by first | rfl | (rw [b7 (by omega) (by omega)]; rfl) | (rw [l6, l6, List.map_append]; rfl)) ?_)
  ·intro h1
   have hle : out.length = mm + 1 := by rw [a9] at h1; simp at h1; omega
   have hfin : H4 ts t0 mm = (out, 0) := by rw [hinv, hle, Nat.sub_self]; simp [H0, R6]
   refine Tri.exit ?_;refine Y1 ?_;refine yA ?_;refine Y25 ?_;exact Tri.ret ⟨.inr rfl, q8 rfl b4 ((by rw [hfin]; exact ToPu.imp (by repeat constructor))) b4 ((by rw [hfin]; exact VImp.refl _))⟩
end
section
variable {G : List (Nat × TypeId × Pu)}
def I7 (ts : List KT) (t : Tm) : Tm × Int :=
 if d3 ts t = 0 then (if D3 t = true then (j7, 6) else if 7 < y6 ts t (c9 t) then (j7, 10) else if n6 (n5 ts t) 60 8 = 0 then (n5 ts t, 0) else (j7, 11)) else (j7, d3 ts t)
theorem bs4 (a b : Pu) (ts : List KT) : y4 (ruO a b ts) = y4 (ruO a b []) := by
 have h : (Ob.map 28 32 (X4 (ax9 ts))).labs = [] := NoLab.ok
 have h0 : (Ob.map 28 32 (X4 (ax9 []))).labs = [] := NoLab.ok
 simp only [ruO, y4, h, h0]
 rfl
set_option maxHeartbeats 4000000 in
theorem bH2 (a b : Pu) (ts : List KT) (t : Tm) (hts : ∀ x ∈ ts, a8 x.2 < 2^40) (hN : a8 t < 2^40) : FCallN Tryz.prog G 46 [.pu (wdP a b ts), .pu (tmc 0 t)] (fun m => aG8 m (I7 ts t)) := by
 refine FCallN.of_tri tbl 45 Tryz.func46 rfl rfl (fun _ => rfl) fun w0 M ρ0 D0 hM => ?_
 refine Tri.fact (i := 0) rfl (fun D w x h => aZ2 h) (fun hwd => ?_);refine Y57 ?_;refine b9 SS 4 ?_;refine yB ?_;refine b8 [2, 3, 4] ?_;refine Y22 ?_;refine Dq (G6 a b ts t hts hN) ?_;refine Y52 ?_;refine Cq ?_ ?_
 ·intro h0
  have h0' : ¬ d3 ts t = 0 := by simpa using h0
  have hfin : I7 ts t = (j7, d3 ts t) := by rw [I7, if_neg h0']
  refine Y51 ?_;refine yM ?_;refine yS ?_;refine Y2 ?_;exact Tri.ret ⟨.inr rfl, q8 rfl j6 ((by rw [hfin]; exact ToPu.imp (by unfold j7; repeat constructor))) b4 ((by rw [hfin]; exact VImp.refl _))⟩
 ·intro h0
  have h0' : d3 ts t = 0 := by simpa using h0
  obtain ⟨k1, k2, k3, k4⟩ := w8 h0'
  obtain ⟨k5, k6⟩ := r7 k4
  refine Y72 ?_;refine Dq (ad7 _ t (Nat.le_refl _) (by omega)) ?_;refine Y0 ?_;refine Cq ?_ ?_
  ·intro h1
   have hfin : I7 ts t = (j7, 6) := by rw [I7, if_pos h0', if_pos h1]
   refine ay4 ?_;exact Tri.ret ⟨.inr rfl, q8 rfl j6 ((by rw [hfin]; exact ToPu.imp (by unfold j7; repeat constructor))) b4 ((by rw [hfin]; exact VImp.refl _))⟩
  ·intro h1
   have hok := F7 k5
   have hN' : a8 t < 2^28 := by omega
   have hwsh := H3 (p := c9 t) k5
   have hkc := bn5 (G := G) a b ts hwd t (c9 t) hok hN' (by generalize d0 t (c9 t) = w at hwsh; obtain ⟨k, n, r, ks, cs⟩ := w; exact hwsh.1) (by generalize d0 t (c9 t) = w at hwsh; obtain ⟨k, n, r, ks, cs⟩ := w; exact hwsh.2.1)
   have hk19 := (E3 (show z7 ts (l5 t (c9 t)) (c9 t).length (d0 t (c9 t)) = y6 ts t (c9 t) from rfl)).2.2.2.2.2.2.2.1
   have hst : I7 ts t = if 7 < y6 ts t (c9 t) then (j7, 10) else if n6 (n5 ts t) 60 8 = 0 then (n5 ts t, 0) else (j7, 11) := by rw [I7, if_pos h0', if_neg (by rw [h1]; decide)]
   generalize hkk : y6 ts t (c9 t) = kk at hkc hk19 hst
   refine Y72 ?_;refine B7 (aK0 a b ts k3 (by omega)) ?_;refine yL ?_;refine Dq (aW6 t k5 (by omega)) ?_;refine b9 SS 8 ?_;refine yA ?_;refine yS ?_;refine A5 [822, 820, 823, 831, 832, 833, 834, 835, 836, 8] ?_ (h1 := by rw [bs4]; kernel_rfl) (h2 := by rw [bs4]; kernel_rfl);refine Y1 ?_;refine yL ?_;refine b5 (p6 (fun _ => hkc)) ?_;refine Y52 ?_;refine Cq ?_ ?_
   ·intro h2
    rw [if_pos (by simpa using h2)] at hst
    refine ay4 ?_;exact Tri.ret ⟨.inr rfl, q8 rfl j6 ((by rw [hst]; exact ToPu.imp (by unfold j7; repeat constructor))) b4 ((by rw [hst]; exact VImp.refl _))⟩
   ·intro h2
    have hk7 : kk ≤ 7 := by simpa using h2
    rw [if_neg (by omega)] at hst
    have hnx : n5 ts t = r5 ts t (c9 t) kk := by unfold n5; rw [hkk]
    have hyz := au3 (fun x hx => (r7 (k2 x hx)).2) hok (show a8 t ≤ 3000 by omega) kk
    rw [← hnx] at hyz
    obtain rfl | rfl | rfl | rfl | rfl | rfl | rfl : kk = 1 ∨ kk = 2 ∨ kk = 3 ∨ kk = 4 ∨ kk = 5 ∨ kk = 6 ∨ kk = 7 := by omega
    all_goals
     refine Tri.skip ?_;refine Y17 ?_;refine yY ?_;refine yF ?_;refine b5 (an0 SS) ?_;refine Y82 ?_
     first | refine b5 (p6 (fun _ => bw4 k5 hok hN' hkk)) ?_ | refine b5 (p6 (fun _ => bw3 k5 hok hN' hkk)) ?_ | refine b5 (p6 (fun _ => bw2 a b hwd hok hN' hkk)) ?_ | refine b5 (p6 (fun _ => bw1 k5 hok hN' hkk)) ?_ | refine b5 (p6 (fun _ => bw0 k5 hok hN' hkk)) ?_ | refine b5 (p6 (fun _ => bv9 k5 hok hN' hkk)) ?_ | refine b5 (p6 (fun _ => bv8 k5 hok hN' hkk)) ?_
     refine b9 SS 10 ?_;refine yS ?_;refine A5 [10] ?_;rw [← hnx];refine Y4 ?_;refine Dq (aV2 (n5 ts t) (by omega)) ?_;refine Y98 ?_;refine Cq ?_ ?_
     ·intro h3
      rw [if_neg (by simpa using h3)] at hst
      refine ay4 ?_;exact Tri.ret ⟨.inr rfl, q8 rfl j6 ((by rw [hst]; exact ToPu.imp (by unfold j7; repeat constructor))) b4 ((by rw [hst]; exact VImp.refl _))⟩
     ·intro h3
      rw [if_pos (by simpa using h3)] at hst
      refine Y72 ?_;refine b5 (z9 (fun m n h => (A0 h _).imp) (fun _ => bd7 (n5 ts t) (by omega))) ?_;refine Y56 ?_;exact Tri.ret ⟨.inr rfl, q8 rfl j6 ((by rw [hst]; exact VImp.refl _)) b4 ((by rw [hst]; exact VImp.refl _))⟩
def M8 (ts : List KT) : Nat → Tm → Option (List Tm)
 | 0, _ => some []
 | n + 1, t => if (I7 ts t).2 = 11 then none else if (I7 ts t).2 = 0 then (M8 ts n (I7 ts t).1).map ((I7 ts t).1 :: ·) else some []
def I6 (ts : List KT) (t : Tm) (most : Int) : List Tm × Int := if d3 ts t = 0 then (if most < 0 ∨ 40 < most then ([], 3) else R6 [t] (M8 ts most.toNat t)) else ([], d3 ts t)
theorem aP1 {ts : List KT} {t x : Tm} {e : Int} (h : I7 ts t = (x, e)) : a8 x ≤ 300 := by
 have hn1 : a8 j7 = 1 := by simp [j7, a8, d7, f6]
 unfold I7 at h
 repeat' split at h
 all_goals (simp only [Prod.mk.injEq] at h; obtain ⟨rfl, _⟩ := h)
 all_goals first | omega | exact (r7 ‹_›).2
set_option maxHeartbeats 1000000 in
theorem bS7 (a b : Pu) (ts : List KT) (t0 : Tm) (hts : ∀ x ∈ ts, a8 x.2 < 2^40) (hN : a8 t0 < 2^40) (most : Int) : FCallN Tryz.prog G 49 [.pu (wdP a b ts), .pu (tmc 0 t0), iv .i64 most] (fun m => aT7 m (I6 ts t0 most)) := by
 refine FCallN.of_tri tbl 50 Tryz.func49 rfl rfl (fun _ => rfl) fun w0 M ρ0 D0 hM => ?_
 refine Y89 ?_;refine yB ?_;refine yB ?_;refine b8 [3, 4] ?_;refine Y22 ?_;refine Dq (G6 a b ts t0 hts hN) ?_;refine Y52 ?_;refine Cq ?_ ?_
 ·intro h0
  have h0' : ¬ d3 ts t0 = 0 := by simpa using h0
  have hfin : I6 ts t0 most = ([], d3 ts t0) := by rw [I6, if_neg h0']
  refine Y1 ?_;refine yB ?_;refine Y2 ?_;exact Tri.ret ⟨.inr rfl, q8 rfl b4 ((by rw [hfin]; exact ToPu.imp (by repeat constructor))) b4 ((by rw [hfin]; exact VImp.refl _))⟩
 ·intro h0
  have h0' : d3 ts t0 = 0 := by simpa using h0
  obtain ⟨k1, k2, k3, k4⟩ := w8 h0'
  obtain ⟨k5, k6⟩ := r7 k4
  refine Tri.skip ?_;refine Y58 ?_;refine Y92 ?_;refine Cq ?_ ?_
  ·intro h1
   have hfin : I6 ts t0 most = ([], 3) := by rw [I6, if_pos h0', if_pos (by simpa using h1)]
   refine aq5 ?_;exact Tri.ret ⟨.inr rfl, q8 rfl b4 ((by rw [hfin]; exact ToPu.imp (by repeat constructor))) b4 ((by rw [hfin]; exact VImp.refl _))⟩
  ·intro h1
   have hm0 : ¬ (most < 0 ∨ 40 < most) := by simp at h1; omega
   obtain ⟨mm, hmm⟩ : ∃ mm : Nat, most = mm := ⟨most.toNat, by omega⟩
   subst hmm
   have hst : I6 ts t0 mm = R6 [t0] (M8 ts mm t0) := by rw [I6, if_pos h0', if_neg hm0, Int.toNat_natCast]
   refine Y72 ?_;refine b5 (z9 (fun m n h => (A0 h _).imp) (fun _ => bd7 t0 (by omega))) ?_;refine aU8 SS (lo := w0.heap.size) ?_;refine Y8 ?_;refine Y1 ?_;refine Y34 ?_;refine Tri.block (Tri.loopW (σ := {q : (Nat × Nat) × List Tm × Tm // q.1.1 ≤ mm ∧ q.2.1.length = q.1.1 + 1 ∧ a8 q.2.2 ≤ 300 ∧ I6 ts t0 mm = R6 q.2.1 (M8 ts (mm - q.1.1) q.2.2)}) (fun i => ⟨[(27, iv .i64 mm), (28, iv .i64 i.1.1.1), (3, .ptr 3 [] 26), (4, .ptr 4 [] 32), (9, .ow w0.heap.size 32 (l8 w0.heap.size i.1.2.1))], [(3, .var 26 (.pu (wdP a b ts))), (4, .var 32 (.pu (tmc i.1.1.2 i.1.2.2)))]⟩) (fun i => mm - i.1.1.1) ⟨((0, 0), [t0], t0), by simp, by simp, by omega, by simpa using hst⟩ ?_ ?_ (fun i => ?_))
   ·exact zk8
   ·exact zk8
   obtain ⟨⟨⟨i, c⟩, out, t⟩, hi, hol, hzt, hinv⟩ := i
   dsimp only at hi hol hzt hinv ⊢
   refine Y41 ?_;refine Cq ?_ ?_
   ·intro h2
    have hlt : i < mm := by simpa using h2
    obtain ⟨nn, hnn⟩ : ∃ nn, mm - i = nn + 1 := ⟨mm - i - 1, by omega⟩
    rw [hnn, M8] at hinv
    have hsc := bH2 (G := G) a b ts t hts (by omega)
    have hsz := fun x e => aP1 (ts := ts) (t := t) (x := x) (e := e)
    generalize I7 ts t = res at hsc hinv hsz
    obtain ⟨x, e⟩ := res
    have hxz := hsz x e rfl
    clear hsz
    dsimp only at hinv
    refine Y20 ?_;refine Y22 ?_;refine b5 (z9 (fun m n h => aP2 h _) (fun _ => hsc)) ?_;refine Y28 ?_;refine b9 SS 10 ?_;refine yS ?_;refine yA ?_;refine b8 [10] ?_;refine Y1 ?_;refine Y0 ?_;refine Tri.block ?_;refine Y18 ?_;refine Cq ?_ ?_
    ·intro h3
     have he : e = 11 := by simpa using h3
     have hfin : I6 ts t0 mm = ([], e) := by rw [hinv, if_pos he, he]; rfl
     refine Y1 ?_;refine yB ?_;refine Y2 ?_;exact Tri.ret ⟨.inr rfl, q8 rfl b4 ((by rw [hfin]; exact ToPu.imp (by repeat constructor))) b4 ((by rw [hfin]; exact VImp.refl _))⟩
    ·intro h3
     have he : ¬ e = 11 := by simpa using h3
     rw [if_neg he] at hinv
     refine Y18 ?_;refine Cq ?_ ?_
     ·intro h4
      have he0 : e = 0 := by simpa using h4
      rw [if_pos he0] at hinv
      have hnext : i + 1 ≤ mm ∧ (out ++ [x]).length = i + 1 + 1 ∧ a8 x ≤ 300 ∧ I6 ts t0 mm = R6 (out ++ [x]) (M8 ts (mm - (i + 1)) x) := ⟨by omega, by simp; omega, hxz, by rw [hinv, aG6, show mm - (i + 1) = nn by omega]⟩
      refine Y1 ?_;refine yL ?_;refine aU8 SS (lo := w0.heap.size) ?_;refine aH4 9 ?_ ?_
      ·simp [a9]; omega
      refine yL ?_;refine yA ?_;refine yS ?_;refine J2 ?_;refine Y33 ?_
      refine ⟨⟨((i + 1, w0.heap.size), out ++ [x], x), hnext⟩, by show mm - (i + 1) < mm - i; omega, i9 ?_ ?_⟩
      ·repeat (first | exact SubE.nil | refine SubE.cons rfl (by first | rfl | (rw [b7 (by omega) (by omega)]; rfl) | (rw [l6, l6, List.map_append]; rfl)) ?_)
      ·repeat (first | exact SubH.nil | refine SubH.cons rfl (by first | rfl | (rw [b7 (by omega) (by omega)]; rfl) | (rw [l6, l6, List.map_append]; rfl)) ?_)
     ·intro h4
      have he0 : ¬ e = 0 := by simpa using h4
      rw [if_neg he0] at hinv
      have hfin : I6 ts t0 mm = (out, 0) := by rw [hinv]; simp [R6]
      refine Y1 ?_;refine yA ?_;refine Y25 ?_;exact Tri.ret ⟨.inr rfl, q8 rfl b4 ((by rw [hfin]; exact ToPu.imp (by repeat constructor))) b4 ((by rw [hfin]; exact VImp.refl _))⟩
   ·intro h2
    have hle : i = mm := by simp at h2; omega
    have hfin : I6 ts t0 mm = (out, 0) := by rw [hinv, hle, Nat.sub_self]; simp [M8, R6]
    refine Tri.exit ?_;refine Y1 ?_;refine yA ?_;refine Y25 ?_;exact Tri.ret ⟨.inr rfl, q8 rfl b4 ((by rw [hfin]; exact ToPu.imp (by repeat constructor))) b4 ((by rw [hfin]; exact VImp.refl _))⟩
end
theorem aB4 {ts : List KT} {t : Tm} (h : d3 ts t = 0) (x : Tm) : d3 ts x = n6 x 0 0 := by
 unfold d3 at h ⊢
 split at h
 ·cases h
 ·rename_i h1
  rw [if_neg h1]
  obtain ⟨h2, h3⟩ := B1 h
  split at h3
  ·cases h3
  ·rename_i h4
   rw [h2, if_neg h4]; rfl
theorem bs5 {ts : List KT} (hb : ∀ x ∈ ts, Rt x.2) {t : Tm} (h : Rt t) (hN : a8 t < 2^28) (hk7 : ¬ 7 < y6 ts t (c9 t)) : Rt (n5 ts t) := by
 unfold n5
 exact bX3 hb h hN rfl (by omega)
theorem br0 {ts : List KT} (hb : ∀ x ∈ ts, Rt x.2) {t : Tm} (hc : d3 ts t = 0) (h : Rt t) : I7 ts t = L6 ts t ∧ ((L6 ts t).2 = 0 → (L6 ts t).1 = n5 ts t ∧ Rt (n5 ts t) ∧ d3 ts (n5 ts t) = 0) := by
 have hz := (r7 (w8 hc).2.2.2).2
 unfold I7 L6
 rw [if_pos hc]
 split
 ·exact ⟨rfl, fun h => by cases h⟩
 ·split
  ·exact ⟨rfl, fun h => by cases h⟩
  ·rename_i h7
   have hn := bs5 hb h (by omega) h7
   rw [hn.check 60 8]
   cases hl : (m2 300 60 1 0 (n5 ts t)).1
   ·refine ⟨by simp, fun _ => ⟨by simp, hn, ?_⟩⟩
    rw [aB4 hc, hn.check, hl]; rfl
   ·exact ⟨by simp, fun h => by simp at h⟩
theorem aK2 {ts : List KT} {n : Nat} {t : Tm} (h : (I7 ts t).2 ≠ 11) (h0 : (I7 ts t).2 ≠ 0) : M8 ts (n + 1) t = some [] := by rw [M8, if_neg h, if_neg h0]
theorem aQ9 {ts : List KT} (hb : ∀ x ∈ ts, Rt x.2) : ∀ (n : Nat) {t : Tm}, d3 ts t = 0 → Rt t → M8 ts n t = H0 ts n t
 | 0, _, _, _ => rfl
 | n + 1, t, hc, h => by
  obtain ⟨h1, h2⟩ := br0 hb hc h
  by_cases hv : D3 t = true
  ·have e : I7 ts t = (j7, 6) := by rw [h1, L6, if_pos hv]
   rw [ao0 (.inl hv), aK2 (by rw [e]; decide) (by rw [e]; decide)]
  by_cases h7 : 7 < y6 ts t (c9 t)
  ·have e : I7 ts t = (j7, 10) := by rw [h1, L6, if_neg hv, if_pos h7]
   rw [ao0 (.inr h7), aK2 (by rw [e]; decide) (by rw [e]; decide)]
  have hr : L6 ts t = if (m2 300 60 1 0 (n5 ts t)).1 = true then (j7, 11) else (n5 ts t, 0) := by rw [L6, if_neg hv, if_neg h7]
  have ht : H0 ts (n + 1) t = if (m2 300 60 1 0 (n5 ts t)).1 = true then none else (H0 ts n (n5 ts t)).map (n5 ts t :: ·) := by rw [H0, if_neg (fun hh : D3 t = true ∨ 7 < y6 ts t (c9 t) => hh.elim hv h7)]
  rw [ht]
  by_cases hl : (m2 300 60 1 0 (n5 ts t)).1 = true
  ·have e : I7 ts t = (j7, 11) := by rw [h1, hr, if_pos hl]
   rw [if_pos hl, M8, e, if_pos rfl]
  ·have e : L6 ts t = (n5 ts t, 0) := by rw [hr, if_neg hl]
   obtain ⟨_, g1, g2⟩ := h2 (by rw [e])
   rw [if_neg hl, M8, h1, e, if_neg (by simp), if_pos rfl, aQ9 hb n g2 g1]
theorem aZ7 {ts : List KT} (hb : ∀ x ∈ ts, Rt x.2) {t : Tm} (hc : d3 ts t = 0) (h : Rt t) (most : Int) : I6 ts t most = H4 ts t most := by
 unfold I6 H4
 rw [if_pos hc]
 split
 ·rfl
 ·rw [aQ9 hb _ hc h]
theorem aO8 {ts : List KT} : ∀ (n : Nat) (t : Tm) (l : List Tm), H0 ts n t = some l → l.length ≤ n ∧ ∀ x ∈ l, a8 x ≤ 300
 | 0, t, l, h => by simp [H0] at h; subst h; simp
 | n + 1, t, l, h => by
  rw [H0] at h
  split at h
  ·simp at h; subst h; simp
  ·split at h
   ·cases h
   ·rename_i hl
    rw [Option.map_eq_some_iff] at h
    obtain ⟨r, hr, rfl⟩ := h
    obtain ⟨h1, h2⟩ := aO8 n _ r hr
    have := Q5 (mn := 300) (md := 60) (t := n5 ts t) (d := 1) (c := 0) (by omega) (by simpa using hl)
    refine ⟨by simp; omega, fun x hx => ?_⟩
    rcases List.mem_cons.1 hx with rfl | hx
    ·omega
    ·exact h2 x hx
theorem bb8 {ts : List KT} {t : Tm} (hz : a8 t ≤ 300) (most : Int) : (H4 ts t most).1.length ≤ 41 ∧ ∀ x ∈ (H4 ts t most).1, a8 x ≤ 300 := by
 unfold H4
 split
 ·simp
 ·cases h : H0 ts most.toNat t with
  | none => simp [R6]
  | some r =>
   obtain ⟨h1, h2⟩ := aO8 _ _ _ h
   simp only [R6]
   refine ⟨by simp; omega, fun x hx => ?_⟩
   simp only [List.cons_append, List.nil_append, List.mem_cons] at hx
   rcases hx with rfl | hx
   ·exact hz
   ·exact h2 x hx
set_option maxHeartbeats 4000000 in
theorem az3 (a b : Pu) (ts : List KT) (t : Tm) (most : Int) (hl : ts.length < 2^40) (hts : ∀ x ∈ ts, a8 x.2 < 2^40) (hN : a8 t < 2^40) (hrg : rgT t) (hrgs : ∀ x ∈ ts, rgT x.2) :
  FCall Tryz.prog gA 7 [.pu (wdP a b ts), .pu (tmc 0 t), iv .i64 most] (bv true) := by
 refine Fq 106 Tryz.func7 ?_;intro w0 M ρ0 D0
 refine Y89 ?_;refine yB ?_;refine b8 [3, 4] ?_;refine Y22 ?_;refine Dq (aK9 a b ts t hl hts hN) ?_;refine Y0 ?_;refine Cq ?_ ?_
 ·intro h0
  refine yR ?_;refine Dq awake_c ?_;refine Y2 ?_;refine Rq ?_;exact VImp.refl _
 ·intro h0
  obtain ⟨hl2, hN2, hts2⟩ := av3 h0
  obtain ⟨y, e, hS⟩ : ∃ y e, I7 ts t = (y, e) := ⟨_, _, rfl⟩
  obtain ⟨l, f, hT⟩ : ∃ l f, I6 ts t most = (l, f) := ⟨_, _, rfl⟩
  have hyz := aP1 hS
  refine Tri.skip ?_;refine Y14 ?_;refine yP ?_;refine Dq (ao9 ts (by omega) (fun x hx => by have := hts2 x hx; omega)) ?_;refine yL ?_;refine Dq (K4 _ t (Nat.le_refl _) (by omega)) ?_;refine b9 SS 7 ?_;refine b9 SS 8 ?_;refine yS ?_;refine yS ?_;refine A5 [7, 8] ?_;refine Y22 ?_;refine Dq (V9 a b ts t hl hts hN) ?_;refine Y8 ?_;refine Y95 ?_;refine yR ?_;refine b9 SS 11 ?_;refine b8 [11] ?_;refine Y21 ?_;refine Y30 ?_
  refine Tri.cutW (σ := Unit) (fun u => ⟨[(3, .ptr 3 [] 26), (4, .ptr 4 [] 32), (7, .ptr 7 [] 26), (8, .ptr 8 [] 32), (11, .ptr 11 [] 32), (2, iv .i64 most), (9, iv .i64 e), (10, iv .i64 f), (12, .pu (.sl 0 32 (l8 0 l)))], [(3, .var 26 (.pu (wdP a b ts))), (4, .var 32 (.pu (tmc 0 t))), (7, .var 26 (.pu (wdP kdN kaN ts))), (8, .var 32 (.pu (tmc 0 t))), (11, .var 32 (.pu (tmc 0 y)))]⟩) ?_ (fun u => ?_)
  ·skip
   refine tQ ?_;refine Cq ?_ ?_
   ·intro h1
    have h1' : d3 ts t = 0 := by simpa using h1
    obtain ⟨k1, k2, k3, k4⟩ := w8 h1'
    have hb : ∀ x ∈ ts, Rt x.2 := fun x hx => Z4 (k2 x hx) (hrgs x hx)
    have hr := Z4 k4 hrg
    have hbz : ∀ x ∈ ts, gdT 0 x.2 ∧ a8 x.2 ≤ 300 := fun x hx => ⟨(hb x hx).gd, (r7 (k2 x hx)).2⟩
    have hrs := bT8 (G := gA) a b ts hl hbz t hr.gd (by omega)
    rw [← (br0 hb h1' hr).1, hS] at hrs
    have hrt := bI7 (G := gA) a b ts hl hbz t hr.gd (by omega) most
    rw [← aZ7 hb h1' hr, hT] at hrt
    refine Y22 ?_;refine Dq hrs ?_;refine Y28 ?_;refine yS ?_;refine Y8 ?_;refine Y22 ?_;refine yM ?_;refine Dq hrt ?_;refine Y80 ?_
    refine ⟨(), ?_, ?_⟩
    ·exact zW
    ·exact zW
   ·intro h1
    have h1' : ¬ d3 ts t = 0 := by simpa using h1
    rw [I7, if_neg h1'] at hS
    rw [I6, if_neg h1'] at hT
    simp only [Prod.mk.injEq] at hS hT
    obtain ⟨rfl, rfl⟩ := hS
    obtain ⟨rfl, rfl⟩ := hT
    unfold j7
    refine Tri.skip ?_
    refine ⟨(), ?_, ?_⟩
    ·exact zW
    ·exact zW
  ·skip
   have hlz : l.length ≤ 41 ∧ ∀ x ∈ l, a8 x ≤ 300 := by
    by_cases h1' : d3 ts t = 0
    ·obtain ⟨k1, k2, k3, k4⟩ := w8 h1'
     have hb : ∀ x ∈ ts, Rt x.2 := fun x hx => Z4 (k2 x hx) (hrgs x hx)
     have := bb8 (ts := ts) (r7 k4).2 most
     rw [← aZ7 hb h1' (Z4 k4 hrg), hT] at this
     exact this
    ·rw [I6, if_neg h1'] at hT
     simp only [Prod.mk.injEq] at hT
     rw [← hT.1]; simp
   have hsc := bH2 (G := gA) kdN kaN ts t hts hN
   have htc := bS7 (G := gA) kdN kaN ts t hts hN most
   rw [hS] at hsc
   rw [hT] at htc
   refine Tri.two2 [3, 4, 7, 8, 11] rfl rfl (by simp) fun w1 M1 ρ1 D1 K2 hpos hseq hspoil => ?_
   refine hseq _ _ _ ?_;refine Y22 ?_;refine b5 (z9 (fun m n h => aP2 h _) (fun _ => hsc)) ?_;refine Y28 ?_;refine b9 SS 13 ?_;refine yS ?_;refine yA ?_;refine b8 [13] ?_
   refine ⟨rfl, ?_⟩
   refine hseq _ _ _ ?_;refine Y22 ?_;refine yM ?_;refine b5 (z9 (fun m n h => bk5 h _) (fun _ => htc)) ?_;refine Y80 ?_
   refine ⟨rfl, ?_⟩
   refine hseq _ _ _ ?_;refine Y62 ?_;refine ay2 ?_;refine f7 zG (c8 (fun _ => M7 _ y y (Nat.le_refl _) (by omega) (by omega))) ?_;refine aq3 ?_;refine ay7 ?_;refine yO ?_;refine Y69 ?_;refine xM ?_;refine f7 zG (c8 (fun _ => aH2 l l (by omega) (by omega) (fun i h1 h2 => M7 _ _ _ (Nat.le_refl _) (by have := hlz.2 _ (List.getElem_mem h1); omega) (by have := hlz.2 _ (List.getElem_mem h1); omega)))) ?_;refine xQ ?_;refine Y92 ?_;refine Tri.cond rfl (fun h2 => ?_) (fun h2 => Tri.skip ?_)
   ·simp [D7, aa5] at h2
   refine ⟨rfl, ?_⟩
   refine hspoil _ _ _ _ [(3, .ptr 3 [] 26), (4, .ptr 4 [] 32), (7, .ptr 7 [] 26), (8, .ptr 8 [] 32)] rfl ?_ (fun C a w hs => ?_) ?_
   ·exact (i9 (e' := [(3, .ptr 3 [] 26), (4, .ptr 4 [] 32), (7, .ptr 7 [] 26), (8, .ptr 8 [] 32)]) (h' := []) zE zH).env
   ·obtain ⟨x3, h3, _⟩ := hs.env 3 _ rfl
    obtain ⟨x4, h4, _⟩ := hs.env 4 _ rfl
    obtain ⟨x7, h7, _⟩ := hs.env 7 _ rfl
    obtain ⟨x8, h8, _⟩ := hs.env 8 _ rfl
    obtain ⟨x13, h13, hv13⟩ := hs.env 13 _ rfl
    obtain ⟨x15, h15, hv15⟩ := hs.env 15 _ rfl
    obtain ⟨bb, hρ, _, cc, EE, hcell, hval, _, hcs⟩ := hs.heap 13 _ rfl
    obtain ⟨rfl⟩ : x13 = .pointer (some ⟨bb, 0, none⟩) := by
     cases hv13 with
     | one hv hsa =>
      generalize hz : x13.cells.toList = z at hv
      cases hv with
      | ptr hl hsub =>
       rw [hρ] at hl
       simp only [Option.some.injEq, Prod.mk.injEq] at hl
       obtain ⟨rfl, rfl⟩ := hl
       simp [T8, V4] at hsub
       obtain ⟨_, rfl⟩ := hsub
       have hsa' : j1 x13 = false := hsa
       cases x13 <;> simp_all [Value.cells, j1]
    have hm : w1.heap.size ≤ w.heap.size := hs.framed.size
    have hsy : P7 w1.heap.size w.heap.size w (a8 y) cc.toList := by
     cases hval with
     | pu hp => exact ah8 hpos (Nat.le_refl _) (a8 y) y _ (Nat.le_refl _) (by omega) hp
    have hsoft : V5 w1.heap.size w.heap.size w 32 36 (P7 w1.heap.size w.heap.size w 300) x15 := ah9 (ps := l8 w1.heap.size l) hpos (Nat.le_refl _) (by kernel_rfl) (aU2 hv15) (by rw [a9]; exact Nat.lt_of_le_of_lt hlz.1 (by decide)) fun i q ll hi hq => by
     rw [l6, List.getElem?_map] at hi
     cases hk : l[i]? with
     | none => simp [hk] at hi
     | some u =>
      simp [hk] at hi
      subst hi;exact ah8 hpos (Nat.le_refl _) 300 u ll (hlz.2 u (List.mem_of_getElem? hk)) (by omega) hq
    obtain ⟨a1, n1, cap1, rfl, hn1, _⟩ := D6 hsoft
    have hcl : cc.toList.length = Tryz.prog.cellsOf 32 := by rw [Array.length_toList]; exact hcs
    refine RTri.use (n := 106) (fun e env' w' => e = .normal ∧ subE [(15, .slice a1 n1 cap1), (3, x3), (4, x4), (7, x7), (8, x8)] env' ∧ Keep w1.heap.size w.heap.size w w' ∧ Wore w1.heap.size w.heap.size w w') ?_ (Kn.of (l := [(13, .pointer (some ⟨bb, 0, none⟩)), (15, .slice a1 n1 cap1), (3, x3), (4, x4), (7, x7), (8, x8)]) hs.size (fun x hx => ?_)) ?_
    ·refine RTri.region ?_
     refine al3 tbl (fun j v hj => by rw [m9 hcell, ← Array.getElem?_toList, Nat.zero_add]; exact hj) hcl rfl (by kernel_rfl) (by decide) ?_;refine RL.call rfl rfl rfl (by decide) #[.agg cc.toList.toArray] (fun _ ha => av2 (by kernel_rfl) rfl rfl rfl ha) ?_
     refine (ar7 _ w1.heap.size w.heap.size w _ hsy (Nat.le_refl _)).mono fun e w3 ⟨⟨v, he⟩, K3, W3⟩ => ⟨v, he, ?_⟩
     refine RL.nil ?_;exact ⟨rfl, ⟨rfl, rfl, rfl, rfl, rfl, trivial⟩, K3, W3⟩
    ·simp only [List.mem_cons, List.not_mem_nil, or_false] at hx
     rcases hx with rfl | rfl | rfl | rfl | rfl | rfl <;> assumption
    ·rintro e a2 w2 env2 hk2 ⟨he, hsub2, hkeep2, hwore2⟩
     refine ⟨he, ?_⟩
     refine RTri.use (n := 106) (fun e env' w' => e = .normal ∧ subE [(3, x3), (4, x4), (7, x7), (8, x8)] env' ∧ Keep w1.heap.size w.heap.size w w') (env := [(15, .slice a1 n1 cap1), (3, x3), (4, x4), (7, x7), (8, x8)]) ?_ (hk2.less hsub2.get) ?_
     ·repeat refine RTri.seq ?_
      refine RTri.region ?_;refine A1 rfl (by decide) ?_;refine bc5 (E := 32) rfl (by kernel_rfl) (by decide) ?_;refine A1 rfl (by decide) ?_;refine RL.nil ?_
      repeat refine RTri.seq ?_
      refine RTri.block ?_;refine RTri.loop (σ := Nat) (fun i env w3 => i ≤ n1 ∧ subE [(84, .int .i64 (i : Nat)), (83, .int .i64 n1), (15, .slice a1 n1 cap1), (3, x3), (4, x4), (7, x7), (8, x8)] env ∧ Keep w1.heap.size w.heap.size w w3 ∧ Wore w1.heap.size w.heap.size w w3) (fun i => n1 - i) 0 ⟨Nat.zero_le _, ⟨rfl, rfl, rfl, rfl, rfl, rfl, rfl, trivial⟩, hkeep2, hwore2⟩ ?_
      rintro i env w3 ⟨hi1, henv, Ki, Wi⟩
      refine RTri.less ?_ henv.get;clear henv env
      repeat refine RTri.seq ?_
      refine RTri.region ?_;refine bK5 tbl rfl rfl (by decide) ?_;refine RL.nil ?_
      repeat refine RTri.seq ?_
      refine RTri.cond rfl (fun hb => RTri.skip ?_) (fun hb => RTri.exit ?_)
      ·have hi' : i < n1 := of_decide_eq_true hb
       obtain ⟨_, _, _, e, _, hv⟩ := D6 (aG9 Wi hsoft)
       simp only [Value.slice.injEq] at e
       obtain ⟨rfl, rfl, rfl⟩ := e
       obtain ⟨b, c, rfl, g1, g2, g3, g4, g5⟩ := hv i hi'
       repeat refine RTri.seq ?_
       refine RTri.block ?_
       repeat refine RTri.seq ?_
       refine RTri.region ?_;refine A1 rfl (by decide) ?_;refine W0 rfl (by decide) ?_;refine RL.nil ?_
       repeat refine RTri.seq ?_
       refine RTri.region ?_;refine A1 rfl (by decide) ?_;refine A1 rfl (by decide) ?_;refine U0 tbl (E := 32) (sz := 36) hi' rfl rfl (by kernel_rfl) (by kernel_rfl) (by decide) ?_;refine al3 tbl (au2 g3) ((aX2 g4).trans (by kernel_rfl)) rfl (by kernel_rfl) (by decide) ?_;refine RL.call rfl rfl rfl (by decide) #[.agg (el c 36 i).toArray] (fun _ ha => av2 (by kernel_rfl) rfl rfl rfl ha) ?_
       refine (ar7 _ w1.heap.size w.heap.size w3 _ g5 Ki.size).mono fun e w4 ⟨⟨v, he⟩, K3, W3⟩ => ⟨v, he, ?_⟩
       refine RL.nil ?_
       repeat refine RTri.seq ?_
       refine RTri.region ?_;refine bc6 tbl rfl (by omega) (by decide) ?_;refine A1 rfl (by decide) ?_;refine RL.nil ?_;exact ⟨i + 1, by omega, by omega, ⟨rfl, rfl, rfl, rfl, rfl, rfl, rfl, trivial⟩, Ki.trans K3, Wi.trans W3⟩
      ·exact ⟨rfl, ⟨rfl, rfl, rfl, rfl, trivial⟩, Ki⟩
     ·rintro e a' w' env' hk ⟨he, hsub, hkeep⟩
      refine ⟨he, ⟨_, hkeep⟩, hk.size, fun i v hv => ?_, hk.defers⟩
      have hmem := y9 hv
      simp only [List.mem_cons, List.not_mem_nil, or_false, Prod.mk.injEq] at hmem
      obtain ⟨s3, s4, s7, s8, _⟩ := hsub
      rcases hmem with ⟨rfl, _⟩ | ⟨rfl, _⟩ | ⟨rfl, _⟩ | ⟨rfl, _⟩
      ·exact (hk.env _ _ s3).trans h3.symm
      ·exact (hk.env _ _ s4).trans h4.symm
      ·exact (hk.env _ _ s7).trans h7.symm
      ·exact (hk.env _ _ s8).trans h8.symm
   ·refine yR ?_
    refine Y82 ?_;refine Dq (M7 _ t t (Nat.le_refl _) (by omega) (by omega)) ?_;refine Y37 ?_;refine Y6 ?_;refine xP ?_;refine f7 zG (c8 (fun _ => aD1 ts ts hl hl hts hts)) ?_;refine yN ?_;refine yM ?_;refine f7 zG (c8 (fun _ => awake_c)) ?_;refine Y44 ?_;refine Rq ?_;exact m0 (by simp [D7, ae3])
end Go.Proofs.YtkcgkignhpepkaaGreatDoor
