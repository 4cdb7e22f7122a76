/- Part 5 of the proof: lemmas on walks and the walks of the functions, in their order. -/
import Derived.Test.YtkcgkignhpepkaaGreatDoorY4
import Derived.Test.YtkcgkignhpepkaaGreatDoorRows
import Derived.Test.YtkcgkignhpepkaaGreatDoorCards
import Derived.Test.YtkcgkignhpepkaaGreatDoorTie
import Derived.WalkKit
import Derived.ProofKit
import Derived.OpenShut
import Derived.Lib.LaidTab
import Derived.LaidSub
import Derived.Deep.DeepHandedRow
set_option linter.unusedSimpArgs false
set_option linter.unusedVariables false
set_option linter.unusedSectionVars false
set_option linter.constructorNameAsVariable false
/- A term in the place of work. -/
namespace Go.Proofs.YtkcgkignhpepkaaGreatDoor
open Go Hs
section
variable {G : List (Nat × TypeId × Pu)}
def O3 : Tm → Nat → Tm → Tm
 | .mk k n r ks cs, j, x => .mk k n r (ks.set j x) cs
def v8 (way : List Tm) (path : List Nat) (lo : Nat) : Nat → Tm → Tm
 | 0, x => x
 | n + 1, x => if n < lo then x else match way[n]?, path[n]? with
  | some t, some k => v8 way path lo n (O3 t k x)
  | _, _ => x
theorem bq9 (lo : Nat) (ks : List Tm) (j : Nat) (x : Tm) : ((l8 lo ks).map PV.pu).set j (.pu (tmc lo x)) = (l8 lo (ks.set j x)).map .pu := by
 rw [l6, l6, List.map_set, List.map_set]
theorem aZ8 (ks : List Tm) (j : Nat) (x : Tm) : (ks.set j x).length = ks.length := by simp
theorem bh0 (path : List Nat) (way : List Tm) (lo hi : Nat) (x : Tm) (h1 : hi ≤ path.length) (h2 : hi ≤ way.length) (hp : ∀ i (h : i < hi), path[i] < way[i].kids.length) (hw : ∀ t ∈ way, t.kids.length < 2^30) (hl : path.length < 2^30) (hlo : lo < 2^40) :
  FCall Tryz.prog G 153 [.pu (G7 path way), iv .i64 lo, iv .i64 hi, .pu (tmc 0 x)] (.pu (tmc 0 (v8 way path lo hi x))) := by
 refine Fq 44 Tryz.func153 ?_;intro w0 M ρ0 D0
 refine yR ?_;refine p7 SS 4 ?_;refine p7 SS 7 ?_;refine b9 SS 8 ?_;refine b8 [4, 7, 8] ?_;refine Y76 ?_;refine Tri.block (Tri.loopW (σ := {q : Nat × Tm // q.1 ≤ hi ∧ v8 way path lo hi x = v8 way path lo q.1 q.2}) (fun i => ⟨[(1, iv .i64 lo), (4, .ptr 4 [] 147), (7, .ptr 7 [] 32), (8, .ptr 8 [] 32), (9, iv .i64 ((i.1.1 : Int) - 1))], [(4, .var 147 (.pu (G7 path way))), (7, .var 32 (.pu (tmc 0 i.1.2))), (8, .var 32 (.agg 32 [iv .i64 0, iv .i64 0, .pu (l4 Z32), .nilc, .nilc]))]⟩) (fun i => i.1.1) ⟨(hi, x), Nat.le_refl _, rfl⟩ ?_ ?_ (fun i => ?_))
 ·exact zk4
 ·exact zk4
 refine Y62 ?_;refine Y0 ?_;refine Cq ?_ ?_
 ·intro h0
  have hlj : (lo : Int) ≤ (i.1.1 : Int) - 1 := by simpa using h0
  obtain ⟨j, hj⟩ : ∃ j, i.1.1 = j + 1 := ⟨i.1.1 - 1, by omega⟩
  have hi1 := i.2.1
  have hjw : j < way.length := by omega
  have hjp : j < path.length := by omega
  have hx := q7 (lo := 0) hjw
  have hk := hp j (by omega)
  have hkl := hw _ (List.getElem_mem hjw)
  have hpg := ac3 hjp
  have hst := i.2.2
  rw [hj] at hst
  simp only [v8, List.getElem?_eq_getElem hjw, List.getElem?_eq_getElem hjp, if_neg (show ¬ j < lo by omega)] at hst
  generalize path[j] = m at hk hpg hst
  generalize way[j] = t at hx hk hkl hst
  obtain ⟨k, n, r, ks, cs⟩ := t
  simp only [Tm.kids] at hk hkl
  have hnext := hst
  have hkt : m < (l8 0 ks).length := by rw [a9]; exact hk
  have hto : ((i.1.1 : Int) - 1).toNat = j := by omega
  refine Y90 ?_;refine b5 (g9 SS (h0 := by omega) (hp := by rw [hto]; exact hx)) ?_;refine yL ?_;refine b9 SS 10 ?_;refine yS ?_;refine b8 [10] ?_;refine Y14 ?_;refine yC ?_;refine bl9 SS (n := (l8 0 ks).length) 27 (by rw [a9]; omega) (by rw [a9]; omega) ?_;refine yA ?_;refine b8 [27] ?_;refine Y50 ?_;refine bI3 SS ?_;refine B5 ?_;refine Y50 ?_;refine yM ?_;refine b5 (g9 SS (h0 := by omega) (hp := by rw [hto]; exact hpg)) ?_;refine Y82 ?_;refine b5 (bG5 SS) ?_;refine aH3 SS (i := m) (vs := (l8 0 ks).map .pu) (u0 := .pu (tmc 0 ks[m])) (by simp [l6, hk]) ?_;refine J2 ?_;rw [bq9];refine Y1 ?_;refine Y74 ?_;refine B5 ?_
  refine Y4 ?_;refine Y16 ?_;refine Tri.freeze (lo := 0) (l := 27) (E := 32) (ps := l8 0 (ks.set m i.1.2)) (env' := [(1, iv .i64 lo), (4, .ptr 4 [] 147), (7, .ptr 7 [] 32), (8, .ptr 8 [] 32), (9, iv .i64 ((i.1.1 : Int) - 1))]) (heap' := [(4, .var 147 (.pu (G7 path way))), (7, .var 32 (.agg 32 [.pu (.leaf (.int .i64 k)), .pu (.leaf (.int .i64 n)), .pu (l4 r), .pu (.sl 0 32 (l8 0 (ks.set m i.1.2))), .pu (.sl 0 106 (z8 0 cs))])), (8, .var 32 (.agg 32 [iv .i64 0, iv .i64 0, .pu (l4 Z32), .nilc, .nilc]))]) rfl (.inl rfl) ?_ (h2 := .cons rfl rfl rfl (.cons rfl rfl (by simp [aL4, at8, bD2, a9, aZ8]) (.cons rfl rfl rfl .nil)))
  refine Tri.ghost (Ghost.wk (env' := [(1, iv .i64 lo), (4, .ptr 4 [] 147), (7, .ptr 7 [] 32), (8, .ptr 8 [] 32), (9, iv .i64 ((i.1.1 : Int) - 1))]) (heap' := [(4, .var 147 (.pu (G7 path way))), (7, .var 32 (.pu (tmc 0 (O3 (.mk k n r ks cs) m i.1.2)))), (8, .var 32 (.agg 32 [iv .i64 0, iv .i64 0, .pu (l4 Z32), .nilc, .nilc]))]) (by repeat (first | exact .nil | refine .cons rfl .refl ?_)) (.cons rfl .refl (.cons rfl (by repeat constructor) (.cons rfl .refl .nil)))) ?_;refine Y40 ?_
  refine ⟨⟨(j, O3 (.mk k n r ks cs) m i.1.2), by omega, hnext⟩, by show j < i.1.1; omega, i9 ?_ ?_⟩
  ·repeat (first | exact SubE.nil | refine SubE.cons rfl (by first | rfl | (rw [b7 (by omega) (by omega)]; rfl) | (rw [b7 (by omega) (by omega)]; rw [show ((i.1.1 : Int) - 1 - 1) = (j : Int) - 1 by omega])) ?_)
  ·repeat (first | exact SubH.nil | refine SubH.cons rfl (by first | rfl | (rw [b7 (by omega) (by omega)]; rfl) | (rw [b7 (by omega) (by omega)]; rw [show ((i.1.1 : Int) - 1 - 1) = (j : Int) - 1 by omega])) ?_)
 ·intro h0
  have hlj : (i.1.1 : Int) - 1 < (lo : Int) := by simpa using h0
  have hfin : v8 way path lo hi x = i.1.2 := i.2.2.trans (by
   cases hq : i.1.1 with
   | zero => rfl
   | succ j => rw [hq] at hlj; simp only [v8]; rw [if_pos (by omega)])
  refine Tri.exit ?_;refine aq6 ?_;refine Rc ?_;exact VImp.of_eq (congrArg (fun t => PV.pu (tmc 0 t)) hfin.symm)
end
section
variable {G : List (Nat × TypeId × Pu)}
def j9 (k : Int) (n : Nat) : Nat := if k = 4 ∨ k = 10 ∨ k = 8 then n else if k = 5 ∨ k = 9 ∨ k = 11 ∨ k = 12 then 1 else 0
abbrev woO (k : Int) (n : Int) (r : List Int) (ks : List Tm) (cs : List Cs) : List (Nat × Ob) := [(811, .var 3 (iv .i64 (j9 k ks.length : Nat))), (812, .var 32 (.pu (tmc 0 (.mk k n r ks cs))))]
abbrev woV : PV := .fn (.func 242) [] [.ptr 811 [] 3, .ptr 812 [] 32]
theorem w9 {P : Program} {k : Int} {n : Nat} {x : Int} (h : x = (j9 k n : Nat)) : ObImp P (.var 3 (iv .i64 x)) (.var 3 (iv .i64 (j9 k n : Nat))) := ci6 h
theorem bF5 (k n : Int) (r : List Int) (ks : List Tm) (cs : List Cs) : HCall Tryz.prog G 219 [.pu (tmc 0 (.mk k n r ks cs))] [] [] woV (woO k n r ks cs) [812, 811] := by
 refine HCall.of_triD tbl 19 [] Tryz.func219 rfl rfl rfl fun w0 M ρ0 D0 => ?_
 refine yR ?_;refine p7 SS 812 ?_;refine yB ?_;refine b8 [812] ?_;refine yR ?_;refine b9 SS 811 ?_;refine yS ?_;refine b8 [811] ?_;refine Y13 ?_;refine Y0 ?_;refine Tri.block ?_;refine Y18 ?_;refine Cq ?_ ?_
 ·intro h0
  refine Y15 ?_;refine Cq ?_ ?_
  ·intro h2
   refine Y14 ?_;refine yC ?_;refine aq4 ?_;exact Tri.ret ⟨.inr rfl, B8 rfl b4 (VImp.refl _), .cons rfl (w9 (by simp only [beq_iff_eq, beq_eq_false_iff_ne, ne_eq] at *; first | (simp_all [j9, a9]; done) | (simp only [a9]; simp_all [j9]))) (.cons rfl (ObImp.refl _) .nil)⟩
  ·intro h2
   refine Y18 ?_;refine Cq ?_ ?_
   ·intro h3
    refine Y15 ?_;refine Cq ?_ ?_
    ·intro h6
     refine yR ?_;refine aq4 ?_;exact Tri.ret ⟨.inr rfl, B8 rfl b4 (VImp.refl _), .cons rfl (w9 (by simp only [beq_iff_eq, beq_eq_false_iff_ne, ne_eq] at *; first | (simp_all [j9, a9]; done) | (simp only [a9]; simp_all [j9]))) (.cons rfl (ObImp.refl _) .nil)⟩
    ·intro h6
     refine Tri.skip ?_;refine Y46 ?_;exact Tri.ret ⟨.inr rfl, B8 rfl b4 (VImp.refl _), .cons rfl (w9 (by simp only [beq_iff_eq, beq_eq_false_iff_ne, ne_eq] at *; first | (simp_all [j9, a9]; done) | (simp only [a9]; simp_all [j9]))) (.cons rfl (ObImp.refl _) .nil)⟩
   ·intro h3
    refine Y18 ?_;refine Cq ?_ ?_
    ·intro h4
     refine Y15 ?_;refine Cq ?_ ?_
     ·intro h6
      refine yR ?_;refine aq4 ?_;exact Tri.ret ⟨.inr rfl, B8 rfl b4 (VImp.refl _), .cons rfl (w9 (by simp only [beq_iff_eq, beq_eq_false_iff_ne, ne_eq] at *; first | (simp_all [j9, a9]; done) | (simp only [a9]; simp_all [j9]))) (.cons rfl (ObImp.refl _) .nil)⟩
     ·intro h6
      refine Tri.skip ?_;refine Y46 ?_;exact Tri.ret ⟨.inr rfl, B8 rfl b4 (VImp.refl _), .cons rfl (w9 (by simp only [beq_iff_eq, beq_eq_false_iff_ne, ne_eq] at *; first | (simp_all [j9, a9]; done) | (simp only [a9]; simp_all [j9]))) (.cons rfl (ObImp.refl _) .nil)⟩
    ·intro h4
     refine Y18 ?_;refine Cq ?_ ?_
     ·intro h5
      refine Y15 ?_;refine Cq ?_ ?_
      ·intro h6
       refine yR ?_;refine aq4 ?_;exact Tri.ret ⟨.inr rfl, B8 rfl b4 (VImp.refl _), .cons rfl (w9 (by simp only [beq_iff_eq, beq_eq_false_iff_ne, ne_eq] at *; first | (simp_all [j9, a9]; done) | (simp only [a9]; simp_all [j9]))) (.cons rfl (ObImp.refl _) .nil)⟩
      ·intro h6
       refine Tri.skip ?_;refine Y46 ?_;exact Tri.ret ⟨.inr rfl, B8 rfl b4 (VImp.refl _), .cons rfl (w9 (by simp only [beq_iff_eq, beq_eq_false_iff_ne, ne_eq] at *; first | (simp_all [j9, a9]; done) | (simp only [a9]; simp_all [j9]))) (.cons rfl (ObImp.refl _) .nil)⟩
     ·intro h5
      refine Y18 ?_;refine Cq ?_ ?_
      ·intro h6
       refine yR ?_;refine aq4 ?_;exact Tri.ret ⟨.inr rfl, B8 rfl b4 (VImp.refl _), .cons rfl (w9 (by simp only [beq_iff_eq, beq_eq_false_iff_ne, ne_eq] at *; first | (simp_all [j9, a9]; done) | (simp only [a9]; simp_all [j9]))) (.cons rfl (ObImp.refl _) .nil)⟩
      ·intro h6
       refine Tri.skip ?_;refine Y46 ?_;exact Tri.ret ⟨.inr rfl, B8 rfl b4 (VImp.refl _), .cons rfl (w9 (by simp only [beq_iff_eq, beq_eq_false_iff_ne, ne_eq] at *; first | (simp_all [j9, a9]; done) | (simp only [a9]; simp_all [j9]))) (.cons rfl (ObImp.refl _) .nil)⟩
 ·intro h0
  refine Y18 ?_;refine Cq ?_ ?_
  ·intro h1
   refine Y15 ?_;refine Cq ?_ ?_
   ·intro h2
    refine Y14 ?_;refine yC ?_;refine aq4 ?_;exact Tri.ret ⟨.inr rfl, B8 rfl b4 (VImp.refl _), .cons rfl (w9 (by simp only [beq_iff_eq, beq_eq_false_iff_ne, ne_eq] at *; first | (simp_all [j9, a9]; done) | (simp only [a9]; simp_all [j9]))) (.cons rfl (ObImp.refl _) .nil)⟩
   ·intro h2
    refine Y18 ?_;refine Cq ?_ ?_
    ·intro h3
     refine Y15 ?_;refine Cq ?_ ?_
     ·intro h6
      refine yR ?_;refine aq4 ?_;exact Tri.ret ⟨.inr rfl, B8 rfl b4 (VImp.refl _), .cons rfl (w9 (by simp only [beq_iff_eq, beq_eq_false_iff_ne, ne_eq] at *; first | (simp_all [j9, a9]; done) | (simp only [a9]; simp_all [j9]))) (.cons rfl (ObImp.refl _) .nil)⟩
     ·intro h6
      refine Tri.skip ?_;refine Y46 ?_;exact Tri.ret ⟨.inr rfl, B8 rfl b4 (VImp.refl _), .cons rfl (w9 (by simp only [beq_iff_eq, beq_eq_false_iff_ne, ne_eq] at *; first | (simp_all [j9, a9]; done) | (simp only [a9]; simp_all [j9]))) (.cons rfl (ObImp.refl _) .nil)⟩
    ·intro h3
     refine Y18 ?_;refine Cq ?_ ?_
     ·intro h4
      refine Y15 ?_;refine Cq ?_ ?_
      ·intro h6
       refine yR ?_;refine aq4 ?_;exact Tri.ret ⟨.inr rfl, B8 rfl b4 (VImp.refl _), .cons rfl (w9 (by simp only [beq_iff_eq, beq_eq_false_iff_ne, ne_eq] at *; first | (simp_all [j9, a9]; done) | (simp only [a9]; simp_all [j9]))) (.cons rfl (ObImp.refl _) .nil)⟩
      ·intro h6
       refine Tri.skip ?_;refine Y46 ?_;exact Tri.ret ⟨.inr rfl, B8 rfl b4 (VImp.refl _), .cons rfl (w9 (by simp only [beq_iff_eq, beq_eq_false_iff_ne, ne_eq] at *; first | (simp_all [j9, a9]; done) | (simp only [a9]; simp_all [j9]))) (.cons rfl (ObImp.refl _) .nil)⟩
     ·intro h4
      refine Y18 ?_;refine Cq ?_ ?_
      ·intro h5
       refine Y15 ?_;refine Cq ?_ ?_
       ·intro h6
        refine yR ?_;refine aq4 ?_;exact Tri.ret ⟨.inr rfl, B8 rfl b4 (VImp.refl _), .cons rfl (w9 (by simp only [beq_iff_eq, beq_eq_false_iff_ne, ne_eq] at *; first | (simp_all [j9, a9]; done) | (simp only [a9]; simp_all [j9]))) (.cons rfl (ObImp.refl _) .nil)⟩
       ·intro h6
        refine Tri.skip ?_;refine Y46 ?_;exact Tri.ret ⟨.inr rfl, B8 rfl b4 (VImp.refl _), .cons rfl (w9 (by simp only [beq_iff_eq, beq_eq_false_iff_ne, ne_eq] at *; first | (simp_all [j9, a9]; done) | (simp only [a9]; simp_all [j9]))) (.cons rfl (ObImp.refl _) .nil)⟩
      ·intro h5
       refine Y18 ?_;refine Cq ?_ ?_
       ·intro h6
        refine yR ?_;refine aq4 ?_;exact Tri.ret ⟨.inr rfl, B8 rfl b4 (VImp.refl _), .cons rfl (w9 (by simp only [beq_iff_eq, beq_eq_false_iff_ne, ne_eq] at *; first | (simp_all [j9, a9]; done) | (simp only [a9]; simp_all [j9]))) (.cons rfl (ObImp.refl _) .nil)⟩
       ·intro h6
        refine Tri.skip ?_;refine Y46 ?_;exact Tri.ret ⟨.inr rfl, B8 rfl b4 (VImp.refl _), .cons rfl (w9 (by simp only [beq_iff_eq, beq_eq_false_iff_ne, ne_eq] at *; first | (simp_all [j9, a9]; done) | (simp only [a9]; simp_all [j9]))) (.cons rfl (ObImp.refl _) .nil)⟩
  ·intro h1
   refine Y18 ?_;refine Cq ?_ ?_
   ·intro h2
    refine Y14 ?_;refine yC ?_;refine aq4 ?_;exact Tri.ret ⟨.inr rfl, B8 rfl b4 (VImp.refl _), .cons rfl (w9 (by simp only [beq_iff_eq, beq_eq_false_iff_ne, ne_eq] at *; first | (simp_all [j9, a9]; done) | (simp only [a9]; simp_all [j9]))) (.cons rfl (ObImp.refl _) .nil)⟩
   ·intro h2
    refine Y18 ?_;refine Cq ?_ ?_
    ·intro h3
     refine Y15 ?_;refine Cq ?_ ?_
     ·intro h6
      refine yR ?_;refine aq4 ?_;exact Tri.ret ⟨.inr rfl, B8 rfl b4 (VImp.refl _), .cons rfl (w9 (by simp only [beq_iff_eq, beq_eq_false_iff_ne, ne_eq] at *; first | (simp_all [j9, a9]; done) | (simp only [a9]; simp_all [j9]))) (.cons rfl (ObImp.refl _) .nil)⟩
     ·intro h6
      refine Tri.skip ?_;refine Y46 ?_;exact Tri.ret ⟨.inr rfl, B8 rfl b4 (VImp.refl _), .cons rfl (w9 (by simp only [beq_iff_eq, beq_eq_false_iff_ne, ne_eq] at *; first | (simp_all [j9, a9]; done) | (simp only [a9]; simp_all [j9]))) (.cons rfl (ObImp.refl _) .nil)⟩
    ·intro h3
     refine Y18 ?_;refine Cq ?_ ?_
     ·intro h4
      refine Y15 ?_;refine Cq ?_ ?_
      ·intro h6
       refine yR ?_;refine aq4 ?_;exact Tri.ret ⟨.inr rfl, B8 rfl b4 (VImp.refl _), .cons rfl (w9 (by simp only [beq_iff_eq, beq_eq_false_iff_ne, ne_eq] at *; first | (simp_all [j9, a9]; done) | (simp only [a9]; simp_all [j9]))) (.cons rfl (ObImp.refl _) .nil)⟩
      ·intro h6
       refine Tri.skip ?_;refine Y46 ?_;exact Tri.ret ⟨.inr rfl, B8 rfl b4 (VImp.refl _), .cons rfl (w9 (by simp only [beq_iff_eq, beq_eq_false_iff_ne, ne_eq] at *; first | (simp_all [j9, a9]; done) | (simp only [a9]; simp_all [j9]))) (.cons rfl (ObImp.refl _) .nil)⟩
     ·intro h4
      refine Y18 ?_;refine Cq ?_ ?_
      ·intro h5
       refine Y15 ?_;refine Cq ?_ ?_
       ·intro h6
        refine yR ?_;refine aq4 ?_;exact Tri.ret ⟨.inr rfl, B8 rfl b4 (VImp.refl _), .cons rfl (w9 (by simp only [beq_iff_eq, beq_eq_false_iff_ne, ne_eq] at *; first | (simp_all [j9, a9]; done) | (simp only [a9]; simp_all [j9]))) (.cons rfl (ObImp.refl _) .nil)⟩
       ·intro h6
        refine Tri.skip ?_;refine Y46 ?_;exact Tri.ret ⟨.inr rfl, B8 rfl b4 (VImp.refl _), .cons rfl (w9 (by simp only [beq_iff_eq, beq_eq_false_iff_ne, ne_eq] at *; first | (simp_all [j9, a9]; done) | (simp only [a9]; simp_all [j9]))) (.cons rfl (ObImp.refl _) .nil)⟩
      ·intro h5
       refine Y18 ?_;refine Cq ?_ ?_
       ·intro h6
        refine yR ?_;refine aq4 ?_;exact Tri.ret ⟨.inr rfl, B8 rfl b4 (VImp.refl _), .cons rfl (w9 (by simp only [beq_iff_eq, beq_eq_false_iff_ne, ne_eq] at *; first | (simp_all [j9, a9]; done) | (simp only [a9]; simp_all [j9]))) (.cons rfl (ObImp.refl _) .nil)⟩
       ·intro h6
        refine Tri.skip ?_;refine Y46 ?_;exact Tri.ret ⟨.inr rfl, B8 rfl b4 (VImp.refl _), .cons rfl (w9 (by simp only [beq_iff_eq, beq_eq_false_iff_ne, ne_eq] at *; first | (simp_all [j9, a9]; done) | (simp only [a9]; simp_all [j9]))) (.cons rfl (ObImp.refl _) .nil)⟩
abbrev plO (acc : List Nat) (t : Tm) : List (Nat × Ob) := [(1, .var 32 (.pu (tmc 0 t))), (3, .var 39 (.ow 0 3 (r0 acc)))]
structure Wi where
 i : Nat
 t : Tm
def wiL (t : Tm) : List Wi := match t with
 | .mk k _ _ ks _ => (ks.take (j9 k ks.length)).mapIdx fun i x => ⟨i, x⟩
def wiE (x : Wi) : List PV := [iv .i64 x.i, .pu (tmc 0 x.t)]
def av5 (x : Wi) : Option Wi := if D3 x.t then none else some x
def wOb (acc : List Nat) (x : Wi) : List (Nat × Ob) := plO (acc ++ [x.i]) x.t
def rOfX (c : Code) (r : Loop) : Option Wi → Loop
 | none => r
 | some _ => aS8 r c
def aOf (acc : List Nat) : Option Wi → List Nat
 | none => acc
 | some x => acc ++ [x.i]
def tOf (t : Tm) : Option Wi → Tm
 | none => t
 | some x => x.t
theorem yc_w {P : Program} {X : Ctx} {l lam : Nat} {r : Loop} {HR : List (Nat × Ob)} {out : Wi → Option Wi} {acc : List Nat} {t : Tm} {c : Code} {x : Wi} (h : YC P X l lam r HR (plO acc t) wiE out (fun _ => c) (wOb acc) x) :
  bj8 P X l (wiE x) HR ((lam, .loop r) :: plO acc t) (bv (out x).isNone) [(lam, .loop (rOfX c r (out x))), (1, .var 32 (.pu (tmc 0 (tOf t (out x))))), (3, .var 39 (.ow 0 3 (r0 (aOf acc (out x)))))] := by
 unfold YC at h
 cases ho : out x with
 | none => rw [ho] at h; exact h
 | some e => rw [ho] at h; exact h
theorem by1 (k n : Int) (r : List Int) (ks : List Tm) (cs : List Cs) (hm : j9 k ks.length ≤ ks.length) (hl : ks.length < 2^40) (acc : List Nat) (out : Wi → Option Wi) :
  IterC Tryz.prog G 242 [.ptr 811 [] 3, .ptr 812 [] 32] 900 [811, 812, 1, 3, 900] (woO k n r ks cs) (plO acc (.mk k n r ks cs)) (wiL (.mk k n r ks cs)) wiE out (fun _ => .exit 1) (wOb acc) := by
 refine IterC.of_tri tbl 19 Tryz.func242 rfl rfl (fun r z => by cases z <;> rfl) fun l rc w0 M ρ0 D0 hy => ?_
 have hL : (wiL (.mk k n r ks cs)).length = j9 k ks.length := by simp [wiL]; omega
 have hk : ∀ i (hi : i < j9 k ks.length), (wiL (.mk k n r ks cs))[i]'(by omega) = ⟨i, ks[i]'(by omega)⟩ := fun i hi => by simp [wiL]
 refine Y4 ?_;refine Y34 ?_;refine Tri.block (Tri.loopW (σ := {i : Nat // ∀ j (hj : j < i) (h : j < j9 k ks.length), out ⟨j, ks[j]'(by omega)⟩ = none}) (fun i => ⟨[(0, .fn (.yield l) [] []), (2, .ptr 812 [] 32), (5, iv .i64 (j9 k ks.length : Nat)), (6, iv .i64 i.1)], [(811, .var 3 (iv .i64 (j9 k ks.length : Nat))), (812, .var 32 (.pu (tmc 0 (.mk k n r ks cs)))), (900, .loop rc), (1, .var 32 (.pu (tmc 0 (.mk k n r ks cs)))), (3, .var 39 (.ow 0 3 (r0 acc)))]⟩) (fun i => j9 k ks.length - i.1) ⟨0, by intro j hj; omega⟩ ?_ ?_ (fun i => ?_))
 ·exact zW
 ·exact zW
 refine Y41 ?_;refine Cq ?_ ?_
 ·intro h0
  have hi : i.1 < j9 k ks.length := by simpa using h0
  have hi' : i.1 < ks.length := by omega
  have hy' := yc_w (hy ⟨i.1, ks[i.1]⟩ (by rw [← hk i.1 hi]; exact List.getElem_mem _))
  refine Y20 ?_;refine Y95 ?_;refine Y17 ?_;refine Y68 ?_;refine b5 (g9 SS (h0 := by omega) (hp := q7 hi')) ?_;refine yL ?_;refine aU6 hy' ?_;refine Y98 ?_;refine Cq ?_ ?_
  ·intro h1
   obtain ⟨e, he⟩ : ∃ e, out ⟨i.1, ks[i.1]⟩ = some e := by
    cases ho : out ⟨i.1, ks[i.1]⟩ with
    | none => rw [ho] at h1; cases h1
    | some e => exact ⟨e, rfl⟩
   have hfin : (wiL (.mk k n r ks cs)).findSome? out = some e := aW9 (i := i.1) (by rw [hL]; omega) (fun j hj => by rw [hk j (by omega)]; exact i.2 j hj (by omega)) (by rw [hk i.1 hi]; exact he)
   rw [hfin];refine tQ ?_;exact Tri.ret ⟨.inr rfl, bJ8, .cons rfl (by rw [he]; exact ObImp.refl _) (.cons rfl (by rw [he]; exact ObImp.refl _) (.cons rfl (by rw [he]; exact ObImp.refl _) .nil))⟩
  ·intro h1
   have he : out ⟨i.1, ks[i.1]⟩ = none := by
    cases ho : out ⟨i.1, ks[i.1]⟩ with
    | none => rfl
    | some e => rw [ho] at h1; cases h1
   have hnext : ∀ j (hj : j < i.1 + 1) (h : j < j9 k ks.length), out ⟨j, ks[j]'(by omega)⟩ = none := fun j hj h => by
    rcases Nat.lt_or_ge j i.1 with h' | h'
    ·exact i.2 j h' h
    ·obtain rfl : j = i.1 := by omega
     exact he
   refine Y66 ?_
   refine ⟨⟨i.1 + 1, hnext⟩, by show j9 k ks.length - (i.1 + 1) < j9 k ks.length - i.1; omega, i9 ?_ ?_⟩
   ·repeat (first | exact SubE.nil | refine SubE.cons rfl (by first | rfl | (rw [b7 (by omega) (by omega)]; rfl) | (rw [he]; rfl)) ?_)
   ·repeat (first | exact SubH.nil | refine SubH.cons rfl (by first | rfl | (rw [b7 (by omega) (by omega)]; rfl) | (rw [he]; rfl)) ?_)
 ·intro h0
  have hfin : (wiL (.mk k n r ks cs)).findSome? out = none := aS0 fun j hj => by
   rw [hL] at hj
   rw [hk j hj]; exact i.2 j (by simp at h0; omega) hj
  rw [hfin];refine Tri.exit ?_;exact ⟨.inl rfl, bJ8, .cons rfl (ObImp.refl _) (.cons rfl (ObImp.refl _) (.cons rfl (ObImp.refl _) .nil))⟩
end
section
variable {G : List (Nat × TypeId × Pu)}
mutual
def shT : Tm → Prop
 | .mk k n _ ks cs => y7 k ks.length = true ∧ (k = 11 → 0 ≤ n ∧ n ≤ 7) ∧ shL ks ∧ shC cs
def shL : List Tm → Prop
 | [] => True
 | t :: ts => shT t ∧ shL ts
def shC : List Cs → Prop
 | [] => True
 | c :: cs => shS c ∧ shC cs
def shS : Cs → Prop
 | .mk _ t => shT t
end
theorem aD0 : ∀ {ks : List Tm}, shL ks → ∀ k ∈ ks, shT k
 | [], _, k, h => by cases h
 | p :: ps, h, k, hk => by
  rcases List.mem_cons.1 hk with rfl | hk
  ·exact h.1
  ·exact aD0 h.2 k hk
theorem bt9 {k : Int} {n : Nat} (h : y7 k n = true) : j9 k n ≤ n := by
 unfold j9
 split
 ·omega
 ·split
  ·rename_i h1
   unfold y7 J0 at h
   rcases h1 with rfl | rfl | rfl | rfl <;> simp at h <;> omega
  ·omega
mutual
def c9 : Tm → List Nat
 | .mk k _ _ ks _ => N2 (j9 k ks.length) 0 ks
def N2 (many i : Nat) : List Tm → List Nat
 | [] => []
 | t :: ts => if i < many then (if D3 t then N2 many (i + 1) ts else i :: c9 t) else []
end
mutual
theorem U9 : ∀ t : Tm, (c9 t).length + 1 ≤ a8 t
 | .mk k _ _ ks cs => by
  have := aJ4 (j9 k ks.length) 0 ks
  simp only [c9, a8]; omega
theorem aJ4 (many i : Nat) : ∀ ks : List Tm, (N2 many i ks).length ≤ d7 ks
 | [] => by simp [N2]
 | t :: ts => by
  have h1 := U9 t
  have h2 := aJ4 many (i + 1) ts
  simp only [N2, d7]
  split
  ·split
   ·omega
   ·simp; omega
  ·simp
end
theorem zP (many : Nat) : ∀ (ks : List Tm) (i : Nat), match ((ks.take (many - i)).mapIdx fun j x => (⟨i + j, x⟩ : Wi)).findSome? av5 with
  | none => N2 many i ks = []
  | some z => N2 many i ks = z.i :: c9 z.t ∧ i ≤ z.i ∧ ks[z.i - i]? = some z.t ∧ D3 z.t = false
 | [], i => by simp [N2]
 | t :: ts, i => by
  by_cases hi : i < many
  ·obtain ⟨d, hd⟩ : ∃ d, many - i = d + 1 := ⟨many - i - 1, by omega⟩
   have ih := zP many ts (i + 1)
   rw [show many - (i + 1) = d by omega] at ih
   rw [hd]
   simp only [List.take_succ_cons, List.mapIdx_cons, List.findSome?_cons, Nat.add_zero, N2, if_pos hi]
   have e : (fun (j : Nat) (x : Tm) => (⟨i + (j + 1), x⟩ : Wi)) = fun j x => ⟨i + 1 + j, x⟩ := by funext j x; rw [show i + (j + 1) = i + 1 + j by omega]
   rw [e]
   by_cases hv : D3 t = true
   ·rw [show av5 ⟨i, t⟩ = none by simp [av5, hv]]
    simp only [hv, if_true]
    generalize hq : ((ts.take d).mapIdx fun j x => (⟨i + 1 + j, x⟩ : Wi)).findSome? av5 = q at ih ⊢
    cases q with
    | none => exact ih
    | some z =>
     obtain ⟨h1, h2, h3, h4⟩ := ih
     refine ⟨h1, by omega, ?_, h4⟩
     rw [show z.i - i = (z.i - (i + 1)) + 1 by omega]
     simpa using h3
   ·rw [show av5 ⟨i, t⟩ = some ⟨i, t⟩ by simp [av5, hv]]
    simp [hv]
  ·rw [show many - i = 0 by omega]
   simp [N2, hi]
theorem bm7 {k n : Int} {r : List Int} {ks : List Tm} {cs : List Cs} (h : (wiL (.mk k n r ks cs)).findSome? av5 = none) : c9 (.mk k n r ks cs) = [] := by
 have := zP (j9 k ks.length) ks 0
 simp only [Nat.sub_zero, Nat.zero_add] at this
 unfold wiL at h
 rw [h] at this
 exact this
theorem bm6 {k n : Int} {r : List Int} {ks : List Tm} {cs : List Cs} {z : Wi} (h : (wiL (.mk k n r ks cs)).findSome? av5 = some z) : c9 (.mk k n r ks cs) = z.i :: c9 z.t ∧ ks[z.i]? = some z.t ∧ D3 z.t = false := by
 have := zP (j9 k ks.length) ks 0
 simp only [Nat.sub_zero, Nat.zero_add] at this
 unfold wiL at h
 rw [h] at this
 exact ⟨this.1, this.2.2⟩
theorem ae7 (a b : List Nat) : r0 (a ++ b) = r0 a ++ r0 b := by simp [r0]
theorem cc3 {k n : Int} {r : List Int} {ks : List Tm} {cs : List Cs} {x : Wi} (h : x ∈ wiL (.mk k n r ks cs)) : x.t ∈ ks := by
 unfold wiL at h
 obtain ⟨i, hi, rfl⟩ := List.mem_mapIdx.1 h
 exact List.mem_of_mem_take (List.getElem_mem _)
theorem bU5 (t0 : Tm) (hs0 : shT t0) (hN : a8 t0 < 2^30) : FCall Tryz.prog G 150 [.pu (tmc 0 t0)] (.pu (.sl 0 3 (r0 (c9 t0)))) := by
 have hpl := U9 t0
 refine Fq 19 Tryz.func150 ?_;intro w0 M ρ0 D0
 refine Y85 ?_;refine tQ ?_;refine Tri.scope ?_;refine yR ?_;refine b9 SS 3 ?_;refine b8 [3] ?_;refine tQ ?_;refine Tri.label ?_;refine tQ ?_;refine Tri.block (Tri.loopW (σ := {q : List Nat × Tm // q.1 ++ c9 q.2 = c9 t0 ∧ shT q.2 ∧ a8 q.2 ≤ a8 t0}) (fun i => ⟨[(1, .ptr 1 [] 32), (3, .ptr 3 [] 39)], [(1, .var 32 (.pu (tmc 0 i.1.2))), (3, .var 39 (.ow 0 3 (r0 i.1.1)))]⟩) (fun i => a8 i.1.2) ⟨([], t0), rfl, hs0, Nat.le_refl _⟩ ?_ ?_ (fun i => ?_))
 ·exact zW
 ·exact zW
 refine Y84 ?_
 obtain ⟨⟨acc, k, n, r, ks, cs⟩, hacc, hsh, hsz⟩ := i
 dsimp only at hacc hsh hsz ⊢
 have hsz' := hsz
 simp only [shT] at hsh
 simp only [a8] at hsz'
 have hlen := f9 ks
 have hal := congrArg List.length hacc
 simp only [List.length_append] at hal
 refine Y4 ?_;refine B7 (bF5 k n r ks cs) ?_;refine b8 [812, 811] ?_;refine Y84 ?_;refine tQ ?_;refine Tri.overFunc 900 [811, 812, 1, 3, 900] [1, 3, 900] [(1, .ptr 1 [] 32), (3, .ptr 3 [] 39)] (by1 k n r ks cs (bt9 hsh.1) (by omega) acc av5) (by intro x _; rfl) (fun x hx r w0 M ρ0 D0 l => ?_) (fun hdone => ?_) (fun z hz => ?_)
 ·skip
  refine yR ?_;refine Y8 ?_;refine yR ?_;refine aC5 ?_
  refine ⟨rfl, ?_⟩
  have hxm := o8 (cc3 hx)
  refine Y84 ?_;refine Y4 ?_;refine Dq (ad7 _ x.t (Nat.le_refl _) (by omega)) ?_;refine Y98 ?_;refine Cq ?_ ?_
  ·intro h0
   have ho : av5 x = some x := by simp at h0; simp [av5, h0]
   refine yR ?_;refine yK ?_;refine yM ?_;refine yZ ?_;refine I2 3 [] ?_ ?_
   ·simp [t8]; omega
   refine yL ?_;refine yW ?_;refine yS ?_;refine J2 ?_;refine Tri.exit ?_
   refine ⟨rfl, ?_, ?_⟩
   ·rw [ho]; rfl
   ·rw [ho]; exact .cons rfl (ObImp.refl _) (.cons rfl (by rw [ae7]; exact ObImp.refl _) .nil)
  ·intro h0
   have ho : av5 x = none := by simp at h0; simp [av5, h0]
   refine Tri.skip ?_
   refine ⟨rfl, ?_, ?_⟩
   ·rw [ho]; rfl
   ·rw [ho]; exact .cons rfl (ObImp.refl _) (.cons rfl (ObImp.refl _) .nil)
 ·skip
  have hfin : c9 t0 = acc := by rw [← hacc, bm7 hdone, List.append_nil]
  refine yR ?_;refine yK ?_;refine Y2 ?_;refine Rq ?_;exact (by rw [hfin]; exact ToPu.imp (by repeat constructor))
 ·skip
  obtain ⟨hp1, hp2, hp3⟩ := bm6 hz
  have hzm := List.mem_of_getElem? hp2
  have hzs := o8 hzm
  refine Tri.exit ?_
  refine ⟨⟨(acc ++ [z.i], z.t), by rw [← hacc, hp1]; simp, aD0 hsh.2.2.1 _ hzm, by show a8 z.t ≤ a8 t0; omega⟩, by show a8 z.t < a8 (.mk k n r ks cs); simp only [a8]; omega, i9 ?_ ?_⟩
  ·repeat (first | exact SubE.nil | refine SubE.cons rfl rfl ?_)
  ·repeat (first | exact SubH.nil | refine SubH.cons rfl rfl ?_)
end
section
variable {G : List (Nat × TypeId × Pu)}
def d0 : Tm → List Nat → Tm
 | t, [] => t
 | t, i :: p => match t.kids[i]? with
  | some x => d0 x p
  | none => t
def l5 : Tm → List Nat → List Tm
 | t, [] => [t]
 | t, i :: p => t :: match t.kids[i]? with
  | some x => l5 x p
  | none => []
def okP : Tm → List Nat → Prop
 | _, [] => True
 | t, i :: p => ∃ x, t.kids[i]? = some x ∧ okP x p
theorem F3 : ∀ {t : Tm} {p : List Nat}, okP t p → (l5 t p).length = p.length + 1
 | t, [], _ => rfl
 | t, i :: p, ⟨x, hx, h⟩ => by simp [l5, hx, F3 h]
theorem ak5 : ∀ {t : Tm} {p : List Nat} {i : Nat}, okP t p → i < p.length → ∃ x, (d0 t (p.take i)).kids[p[i]!]? = some x ∧ d0 t (p.take (i + 1)) = x ∧ l5 t (p.take (i + 1)) = l5 t (p.take i) ++ [x]
 | t, [], i, _, h => by simp at h
 | t, j :: p, 0, ⟨x, hx, h⟩, _ => ⟨x, by simp [d0, hx], by simp [d0, hx], by simp [l5, hx]⟩
 | t, j :: p, i + 1, ⟨x, hx, h⟩, hi => by
  obtain ⟨y, h1, h2, h3⟩ := ak5 (i := i) h (by simpa using hi)
  exact ⟨y, by simpa [d0, hx] using h1, by simpa [d0, hx] using h2, by simp [l5, hx, h3]⟩
theorem t5 : ∀ {t : Tm} {p : List Nat}, a8 (d0 t p) ≤ a8 t
 | t, [] => by simp [d0]
 | t, i :: p => by
  simp only [d0]
  split
  ·rename_i x hx
   have := t5 (t := x) (p := p)
   have h2 := o8 (List.mem_of_getElem? hx)
   obtain ⟨k, n, r, ks, cs⟩ := t
   simp only [Tm.kids, a8] at h2 ⊢
   omega
  ·omega
theorem bF7 : ∀ (t : Tm) (p : List Nat), (l5 t p).length ≤ p.length + 1
 | t, [] => by simp [l5]
 | t, i :: p => by
  simp only [l5, List.length_cons]
  split
  ·have := bF7 (by assumption) p; omega
  ·simp
mutual
theorem F7 : ∀ {t : Tm}, shT t → okP t (c9 t)
 | .mk k n r ks cs, h => by
  simp only [shT] at h
  simp only [c9]
  exact aQ5 k n r ks cs ks 0 (fun j x hj => by simpa using hj) h.2.2.1
theorem aQ5 (k n : Int) (r : List Int) (all : List Tm) (cs : List Cs) {many : Nat} : ∀ (ks : List Tm) (i : Nat), (∀ j x, ks[j]? = some x → all[i + j]? = some x) → shL ks → okP (.mk k n r all cs) (N2 many i ks)
 | [], i, _, _ => trivial
 | t :: ts, i, h, hs => by
  simp only [N2]
  split
  ·split
   ·exact aQ5 k n r all cs ts (i + 1) (fun j x hj => by
     have := h (j + 1) x (by simpa using hj)
     rwa [show i + (j + 1) = i + 1 + j by omega] at this) hs.2
   ·exact ⟨t, by simpa [Tm.kids] using h 0 t rfl, F7 hs.1⟩
  ·trivial
end
theorem aW6 (t0 : Tm) (hs0 : shT t0) (hN : a8 t0 < 2^30) : FCall Tryz.prog G 93 [.pu (tmc 0 t0)] (.pu (G7 (c9 t0) (l5 t0 (c9 t0)))) := by
 have hpl := U9 t0
 have hok := F7 hs0
 refine Fq 31 Tryz.func93 ?_;intro w0 M ρ0 D0
 have hpc := bU5 (G := G) t0 hs0 hN
 generalize hp : c9 t0 = p at hpl hok hpc ⊢
 refine Y67 ?_;refine Y4 ?_;refine Dq hpc ?_;refine yL ?_;refine Y81 ?_;refine b9 SS 3 ?_;refine yS ?_;refine A5 [3] ?_;refine ay8 ?_;refine Tri.block (Tri.loopW (σ := Nat) (fun i => ⟨[(1, .ptr 1 [] 32), (2, .ptr 2 [] 147), (3, .ptr 3 [] 147), (12, .pu (.sl 0 3 (r0 p))), (13, iv .i64 (r0 p).length), (14, iv .i64 i)], [(1, .var 32 (.pu (tmc 0 (d0 t0 (p.take i))))), (2, .var 147 (.agg 147 [.nilc, .nilc])), (3, .var 147 (.agg 147 [.pu (.sl 0 3 (r0 p)), .ow 0 32 (l8 0 (l5 t0 (p.take i)))]))]⟩) (fun i => p.length - i) 0 ?_ ?_ (fun i => ?_))
 ·repeat (first | exact .nil | refine .cons rfl (by first | exact .refl | (focus ((repeat constructor); done)) | (exact .var (.agg (.cons .refl (.cons .xsOw .nil))))) ?_)
 ·repeat (first | exact .nil | refine .cons rfl (by first | exact .refl | (focus ((repeat constructor); done)) | (exact .var (.agg (.cons .refl (.cons .xsOw .nil))))) ?_)
 refine Y41 ?_;refine Cq ?_ ?_
 ·intro h0
  have hi : i < p.length := by rw [t8] at h0; simpa using h0
  obtain ⟨x, hx1, hx2, hx3⟩ := ak5 hok hi
  have hsz := t5 (t := t0) (p := p.take i)
  have hpg := ac3 hi
  rw [getElem!_pos p i hi] at hx1
  generalize p[i] = m at hx1 hpg
  have hwl : (l5 t0 (p.take i)).length ≤ i + 1 := by have := bF7 t0 (p.take i); simp at this; omega
  generalize d0 t0 (p.take i) = t at hx1 hsz ⊢
  obtain ⟨k, n, r, ks, cs⟩ := t
  simp only [Tm.kids] at hx1
  have hxg : (l8 0 ks)[m]? = some (tmc 0 x) := by simp [l6, hx1]
  refine Y86 ?_;refine Xq hpg ?_;refine yL ?_;refine Y8 ?_;refine Y60 ?_;refine Xq hxg ?_;refine yL ?_;refine Y16 ?_;refine Y14 ?_;refine yL ?_;refine yZ ?_;refine I2 3 [1] ?_ ?_
  ·simp [a9]; omega
  refine Y74 ?_;refine B5 ?_;refine Y33 ?_
  refine ⟨i + 1, by omega, i9 ?_ ?_⟩
  ·repeat (first | exact SubE.nil | refine SubE.cons rfl (by first | rfl | (rw [b7 (by omega) (by omega)]; rfl) | (first | (rw [hx2]; done) | (rw [hx3, l6, l6, List.map_append]; rfl))) ?_)
  ·repeat (first | exact SubH.nil | refine SubH.cons rfl (by first | rfl | (rw [b7 (by omega) (by omega)]; rfl) | (first | (rw [hx2]; done) | (rw [hx3, l6, l6, List.map_append]; rfl))) ?_)
 ·intro h0
  have hi : p.length ≤ i := by rw [t8] at h0; simpa using h0
  rw [List.take_of_length_le hi];refine Tri.exit ?_;refine aq6 ?_;refine Rc ?_;exact ToPu.imp (by repeat constructor)
end
section
variable {G : List (Nat × TypeId × Pu)}
theorem B3 : ∀ {t : Tm} {p : List Nat} {i : Nat}, okP t p → i ≤ p.length → (l5 t p)[i]? = some (d0 t (p.take i))
 | t, [], 0, _, _ => by simp [l5, d0]
 | t, j :: p, 0, _, _ => by simp [l5, d0]
 | t, j :: p, i + 1, ⟨x, hx, h⟩, hi => by
  have := B3 (i := i) h (by simpa using hi)
  simpa [l5, d0, hx] using this
theorem aZ3 {t : Tm} {p : List Nat} {i : Nat} (h : okP t p) (hi : i < p.length) : (d0 t (p.take i)).kids[p[i]]? = some (d0 t (p.take (i + 1))) := by
 obtain ⟨x, h1, h2, _⟩ := ak5 h hi
 rw [getElem!_pos p i hi] at h1
 rw [h2, h1]
theorem aa0 {t : Tm} {p : List Nat} (h : okP t p) : ∀ i (hi : i < p.length), p[i] < ((l5 t p)[i]'(by rw [F3 h]; omega)).kids.length := fun i hi => by
 have h1 := B3 h (Nat.le_of_lt hi)
 have h2 := aZ3 h hi
 rw [List.getElem?_eq_getElem (by rw [F3 h]; omega)] at h1
 simp only [Option.some.injEq] at h1
 rw [h1];exact (List.getElem?_eq_some_iff.1 h2).1
theorem ad5 {t : Tm} {p : List Nat} (h : okP t p) : ∀ x ∈ l5 t p, a8 x ≤ a8 t := fun x hx => by
 obtain ⟨i, hi, rfl⟩ := List.getElem_of_mem hx
 have h1 := B3 h (i := i) (by rw [F3 h] at hi; omega)
 rw [List.getElem?_eq_getElem hi] at h1
 simp only [Option.some.injEq] at h1
 rw [h1];exact t5
theorem af4 (t : Tm) : t.kids.length < a8 t := by
 obtain ⟨k, n, r, ks, cs⟩ := t
 have := f9 ks
 simp only [Tm.kids, a8]; omega
theorem o4 {t x : Tm} {i : Nat} (h : t.kids[i]? = some x) : a8 x < a8 t := by
 obtain ⟨k, n, r, ks, cs⟩ := t
 have := o8 (List.mem_of_getElem? h)
 simp only [Tm.kids] at this
 simp only [a8]; omega
theorem I1 {t : Tm} {p : List Nat} (h : okP t p) : p.length < a8 t := by
 induction p generalizing t with
 | nil => have := m8 t; show 0 < a8 t; omega
 | cons i p ih =>
  obtain ⟨x, hx, h⟩ := h
  have := ih h
  have := o4 hx
  simp; omega
theorem aG3 : ∀ {ks : List Tm} {j : Nat} {x y : Tm}, ks[j]? = some y → d7 (ks.set j x) + a8 y = d7 ks + a8 x
 | [], j, x, y, h => by simp at h
 | t :: ts, 0, x, y, h => by simp at h; subst h; simp [d7]; omega
 | t :: ts, j + 1, x, y, h => by
  have := aG3 (ks := ts) (j := j) (x := x) (y := y) (by simpa using h)
  simp [d7]; omega
theorem ac7 {t : Tm} {p : List Nat} (h : okP t p) (lo : Nat) : ∀ (hi : Nat) (x : Tm), hi ≤ p.length → a8 (v8 (l5 t p) p lo hi x) ≤ a8 t + a8 x
 | 0, x, _ => by simp [v8]
 | n + 1, x, hn => by
  have key : ∀ (m : Nat) (y : Tm) (b : Nat), m ≤ p.length → a8 y + a8 (d0 t (p.take m)) ≤ b + a8 t + a8 (d0 t (p.take m)) → a8 y ≤ b + a8 (d0 t (p.take m)) → a8 (v8 (l5 t p) p lo m y) ≤ b + a8 t := by
   intro m
   induction m with
   | zero => intro y b _ _ h2; simpa [v8, d0] using h2
   | succ m ih =>
    intro y b hm h1 h2
    simp only [v8]
    split
    ·omega
    ·have hmp : m < p.length := by omega
     have hk := aZ3 h hmp
     rw [B3 h (by omega), List.getElem?_eq_getElem hmp]
     simp only
     have hs : a8 (O3 (d0 t (p.take m)) p[m] y) + a8 (d0 t (p.take (m + 1))) = a8 (d0 t (p.take m)) + a8 y := by
      generalize d0 t (p.take m) = q at hk ⊢
      obtain ⟨k, n, r, ks, cs⟩ := q
      simp only [Tm.kids] at hk
      have := aG3 (x := y) hk
      simp only [O3, a8]; omega
     have := t5 (t := t) (p := p.take m)
     exact ih _ b (by omega) (by omega) (by omega)
  have h1 := t5 (t := t) (p := p.take (n + 1))
  have := key (n + 1) x (a8 x) hn (by omega) (by omega)
  omega
theorem Q6 (path : List Nat) (way : List Tm) (lo : Nat) (x : Tm) (h2 : path.length ≤ way.length) (hp : ∀ i (h : i < path.length), path[i] < way[i].kids.length) (hw : ∀ t ∈ way, t.kids.length < 2^30) (hl : path.length < 2^30) (hlo : lo < 2^40) :
  FCall Tryz.prog G 153 [.pu (G7 path way), .pu (.leaf (.int .i64 lo)), .pu (.leaf (.int .i64 (r0 path).length)), .pu (tmc 0 x)] (.pu (tmc 0 (v8 way path lo path.length x))) := by
 rw [t8]; exact bh0 path way lo path.length x (Nat.le_refl _) h2 hp hw hl hlo
theorem bY4 (t f x b : Tm) (h0 : t.kids[0]? = some f) (h1 : t.kids[1]? = some x) (h2 : f.kids[0]? = some b) (hN : a8 t < 2^30) : FCallN Tryz.prog G 155 [.pu (tmc 0 t)] (fun m => .pu (tmc m (o5 [x] 0 b))) := by
 have s0 := o4 h0
 have s1 := o4 h1
 have s2 := o4 h2
 obtain ⟨k, n, r, ks, cs⟩ := t
 obtain ⟨k', n', r', ks', cs'⟩ := f
 simp only [Tm.kids] at h0 h1 h2
 have g0 : (l8 0 ks)[0]? = some (tmc 0 (.mk k' n' r' ks' cs')) := by simp [l6, h0]
 have g1 : (l8 0 ks)[1]? = some (tmc 0 x) := by simp [l6, h1]
 have g2 : (l8 0 ks')[0]? = some (tmc 0 b) := by simp [l6, h2]
 refine FCallN.of_tri tbl 16 Tryz.func155 rfl rfl (fun _ => rfl) fun w0 M ρ0 D0 hM => ?_
 refine Y67 ?_;refine Y14 ?_;refine Xq g0 ?_;refine Y7 ?_;refine Xq g2 ?_;refine yL ?_;refine Y7 ?_;refine Xq g1 ?_;refine yL ?_;refine yZ ?_;refine b5 (z9 (fun m n h => (A0 h _).imp) (fun _ => bc7 [x] (by simp) (fun v hv => by simp at hv; subst hv; omega) b (by omega))) ?_;refine ay5 ?_;refine Rc ?_;exact ToPu.imp (by repeat constructor)
theorem bY2 (t x b : Tm) (h0 : t.kids[0]? = some x) (h1 : t.kids[1]? = some b) (hN : a8 t < 2^30) : FCallN Tryz.prog G 157 [.pu (tmc 0 t)] (fun m => .pu (tmc m (o5 [x] 0 b))) := by
 have s0 := o4 h0
 have s1 := o4 h1
 obtain ⟨k, n, r, ks, cs⟩ := t
 simp only [Tm.kids] at h0 h1
 have g0 : (l8 0 ks)[0]? = some (tmc 0 x) := by simp [l6, h0]
 have g1 : (l8 0 ks)[1]? = some (tmc 0 b) := by simp [l6, h1]
 refine FCallN.of_tri tbl 13 Tryz.func157 rfl rfl (fun _ => rfl) fun w0 M ρ0 D0 hM => ?_
 refine Y67 ?_;refine Y14 ?_;refine Xq g1 ?_;refine yL ?_;refine Y7 ?_;refine Xq g0 ?_;refine yL ?_;refine yZ ?_;refine b5 (z9 (fun m n h => (A0 h _).imp) (fun _ => bc7 [x] (by simp) (fun v hv => by simp at hv; subst hv; omega) b (by omega))) ?_;refine ay5 ?_;refine Rc ?_;exact ToPu.imp (by repeat constructor)
theorem bY1 (t x b : Tm) (h0 : t.kids[0]? = some x) (h1 : t.kids[1]? = some b) (hN : a8 t < 2^30) : FCallN Tryz.prog G 162 [.pu (tmc 0 t)] (fun m => .pu (tmc m (o5 [x] 0 b))) := by
 have s0 := o4 h0
 have s1 := o4 h1
 obtain ⟨k, n, r, ks, cs⟩ := t
 simp only [Tm.kids] at h0 h1
 have g0 : (l8 0 ks)[0]? = some (tmc 0 x) := by simp [l6, h0]
 have g1 : (l8 0 ks)[1]? = some (tmc 0 b) := by simp [l6, h1]
 refine FCallN.of_tri tbl 13 Tryz.func162 rfl rfl (fun _ => rfl) fun w0 M ρ0 D0 hM => ?_
 refine Y67 ?_;refine Y14 ?_;refine Xq g1 ?_;refine yL ?_;refine Y7 ?_;refine Xq g0 ?_;refine yL ?_;refine yZ ?_;refine b5 (z9 (fun m n h => (A0 h _).imp) (fun _ => bc7 [x] (by simp) (fun v hv => by simp at hv; subst hv; omega) b (by omega))) ?_;refine ay5 ?_;refine Rc ?_;exact ToPu.imp (by repeat constructor)
def V2 : Tm := .mk 1 0 Z32 [] []
def I4 (t0 : Tm) (p : List Nat) (n : Nat) : Tm := .mk 3 0 Z32 [v8 (l5 t0 p) p n p.length V2] []
theorem do_c (t0 : Tm) (p : List Nat) (hok : okP t0 p) (hN : a8 t0 < 2^28) (n : Nat) (a b : Tm) (hn : p8 (l5 t0 p) (d0 t0 p).ref p.length = (n : Int)) (hnp : n < p.length) (hnum : 0 ≤ (d0 t0 p).num ∧ (d0 t0 p).num < 2^20)
  (ha : (d0 t0 p).kids[0]? = some a) (hb : (d0 t0 (p.take n)).kids[(2 + (d0 t0 p).num).toNat]? = some b) :
  FCall Tryz.prog G 161 [.pu (G7 p (l5 t0 p))] (.pu (tmc 0 (v8 (l5 t0 p) p 0 n (o5 [a, I4 t0 p n] 0 b)))) := by
 have hpl := I1 hok
 have hwl := F3 hok
 have hat := aY1 (G := G) p (l5 t0 p) (by omega)
 have hwg := B3 hok (Nat.le_refl p.length)
 rw [List.take_length, List.getElem?_eq_getElem (by omega)] at hwg
 simp only [Option.some.injEq] at hwg
 rw [hwg] at hat
 have hwn := B3 hok (Nat.le_of_lt hnp)
 have hsz := t5 (t := t0) (p := p)
 have hszn := t5 (t := t0) (p := p.take n)
 have hfb := ac7 hok n p.length V2 (Nat.le_refl _)
 have hkw : ∀ t ∈ l5 t0 p, t.kids.length < 2^30 := fun t ht => by have := ad5 hok t ht; have := af4 t; omega
 have sa := o4 ha
 have sb := o4 hb
 generalize hw : d0 t0 p = w at hn hnum ha hb hat hsz sa
 obtain ⟨k, num, r, ks, cs⟩ := w
 simp only [Tm.num, Tm.ref, Tm.kids] at hn hnum ha hb
 generalize hv : d0 t0 (p.take n) = v at hb hwn hszn sb
 obtain ⟨k', num', r', ks', cs'⟩ := v
 simp only [Tm.kids] at hb
 have hsv : a8 V2 = 1 := by simp [V2, a8, d7, f6]
 have ga : (l8 0 ks)[0]? = some (tmc 0 a) := by simp [l6, ha]
 have gb : (l8 0 ks')[(2 + num).toNat]? = some (tmc 0 b) := by simp [l6, hb]
 have gw : (l8 0 (l5 t0 p))[((n : Int)).toNat]? = some (tmc 0 (.mk k' num' r' ks' cs')) := by simp [l6, hwn]
 have hsb : a8 (I4 t0 p n) < 2^30 := by simp only [I4, a8, d7, f6]; omega
 refine Fq 45 Tryz.func161 ?_;intro w0 M ρ0 D0
 refine Y67 ?_;refine Y4 ?_;refine Dq hat ?_;refine b9 SS 3 ?_;refine yS ?_;refine b8 [3] ?_;refine Y4 ?_;refine Y70 ?_;refine yP ?_;refine Dq (aR7 p (l5 t0 p) r num (by omega) (by omega)) ?_;refine Y8 ?_;rw [hn];refine Y65 ?_;refine Y7 ?_;refine yC ?_;refine yP ?_;refine Dq (Q6 p (l5 t0 p) n V2 (by omega) (fun i hi => aa0 hok i hi) hkw (by omega) (by omega)) ?_;refine Y81 ?_;refine aC5 ?_;refine Y65 ?_;refine Y68 ?_;refine Xq gw ?_;refine Y7 ?_;refine Y54 ?_
 refine b5 (g9 SS (h0 := by rw [b7 (by omega) (by omega)]; omega) (hp := by rw [b7 (by omega) (by omega)]; exact gb)) ?_;refine yL ?_;refine Y7 ?_;refine Xq ga ?_;refine Y82 ?_;refine aU8 SS (ps := [tmc 0 a, tmc 0 (I4 t0 p n)]) ?_;refine Dq ((bc7 [a, I4 t0 p n] (by simp) (fun v hv => by simp at hv; rcases hv with rfl | rfl <;> omega) b (by omega)).at (u := .pu (tmc 0 (o5 [a, I4 t0 p n] 0 b))) (fun m => (A0 (Nat.zero_le m) _).imp)) ?_;refine Dq (bh0 p (l5 t0 p) 0 n (o5 [a, I4 t0 p n] 0 b) (by omega) (by omega) (fun i hi => aa0 hok i (by omega)) hkw (by omega) (by omega)) ?_;refine ay5 ?_;refine Rc ?_;exact ToPu.imp (by repeat constructor)
def I0 (t0 : Tm) (p : List Nat) (y : Tm) : Tm := v8 (l5 t0 p) p 0 p.length y
theorem bD0 (f : FuncId) (he : n9 Tryz.prog f = true) (t0 : Tm) (p : List Nat) (hok : okP t0 p) (hN : a8 t0 < 2^28) (y : Tm) (h : FCall Tryz.prog G f [.pu (tmc 0 (d0 t0 p))] (.pu (tmc 0 y))) :
  HCall Tryz.prog G 152 [.pu (G7 p (l5 t0 p)), .ptr 831 [] 36] [(831, .var 36 (fV f))] [] (.pu (tmc 0 (I0 t0 p y))) [] [] := by
 have hpl := I1 hok
 have hwl := F3 hok
 have hat := aY1 (G := G) p (l5 t0 p) (by omega)
 have hwg := B3 hok (Nat.le_refl p.length)
 rw [List.take_length, List.getElem?_eq_getElem (by omega)] at hwg
 simp only [Option.some.injEq] at hwg
 rw [hwg] at hat
 have hkw : ∀ t ∈ l5 t0 p, t.kids.length < 2^30 := fun t ht => by have := ad5 hok t ht; have := af4 t; omega
 refine HCall.of_triD tbl 13 [] Tryz.func152 rfl rfl rfl fun w0 M ρ0 D0 => ?_
 refine Y36 ?_;refine b9 SS 3 ?_;refine b8 [2, 3] ?_;refine Y4 ?_;refine Y7 ?_;refine yC ?_;refine Y82 ?_;refine Dq hat ?_;refine b5 (p6 (fun _ => h) (he := he)) ?_;refine Dq (Q6 p (l5 t0 p) 0 y (by omega) (fun i hi => aa0 hok i hi) hkw (by omega) (by omega)) ?_;refine ay5 ?_;refine Rcz ?_;exact VImp.refl _
theorem bC9 (f : FuncId) (he : n9 Tryz.prog f = true) (t0 : Tm) (p : List Nat) (hok : okP t0 p) (hN : a8 t0 < 2^28) (y : Tm) (h : FCall Tryz.prog G f [.pu (tmc 0 (d0 t0 p))] (.pu (tmc 0 y))) :
  HCall Tryz.prog G 152 [.pu (G7 p (l5 t0 p)), .ptr 832 [] 36] [(832, .var 36 (fV f))] [] (.pu (tmc 0 (I0 t0 p y))) [] [] := by
 have hpl := I1 hok
 have hwl := F3 hok
 have hat := aY1 (G := G) p (l5 t0 p) (by omega)
 have hwg := B3 hok (Nat.le_refl p.length)
 rw [List.take_length, List.getElem?_eq_getElem (by omega)] at hwg
 simp only [Option.some.injEq] at hwg
 rw [hwg] at hat
 have hkw : ∀ t ∈ l5 t0 p, t.kids.length < 2^30 := fun t ht => by have := ad5 hok t ht; have := af4 t; omega
 refine HCall.of_triD tbl 13 [] Tryz.func152 rfl rfl rfl fun w0 M ρ0 D0 => ?_
 refine Y36 ?_;refine b9 SS 3 ?_;refine b8 [2, 3] ?_;refine Y4 ?_;refine Y7 ?_;refine yC ?_;refine Y82 ?_;refine Dq hat ?_;refine b5 (p6 (fun _ => h) (he := he)) ?_;refine Dq (Q6 p (l5 t0 p) 0 y (by omega) (fun i hi => aa0 hok i hi) hkw (by omega) (by omega)) ?_;refine ay5 ?_;refine Rcz ?_;exact VImp.refl _
theorem bC7 (f : FuncId) (he : n9 Tryz.prog f = true) (t0 : Tm) (p : List Nat) (hok : okP t0 p) (hN : a8 t0 < 2^28) (y : Tm) (h : FCall Tryz.prog G f [.pu (tmc 0 (d0 t0 p))] (.pu (tmc 0 y))) :
  HCall Tryz.prog G 152 [.pu (G7 p (l5 t0 p)), .ptr 834 [] 36] [(834, .var 36 (fV f))] [] (.pu (tmc 0 (I0 t0 p y))) [] [] := by
 have hpl := I1 hok
 have hwl := F3 hok
 have hat := aY1 (G := G) p (l5 t0 p) (by omega)
 have hwg := B3 hok (Nat.le_refl p.length)
 rw [List.take_length, List.getElem?_eq_getElem (by omega)] at hwg
 simp only [Option.some.injEq] at hwg
 rw [hwg] at hat
 have hkw : ∀ t ∈ l5 t0 p, t.kids.length < 2^30 := fun t ht => by have := ad5 hok t ht; have := af4 t; omega
 refine HCall.of_triD tbl 13 [] Tryz.func152 rfl rfl rfl fun w0 M ρ0 D0 => ?_
 refine Y36 ?_;refine b9 SS 3 ?_;refine b8 [2, 3] ?_;refine Y4 ?_;refine Y7 ?_;refine yC ?_;refine Y82 ?_;refine Dq hat ?_;refine b5 (p6 (fun _ => h) (he := he)) ?_;refine Dq (Q6 p (l5 t0 p) 0 y (by omega) (fun i hi => aa0 hok i hi) hkw (by omega) (by omega)) ?_;refine ay5 ?_;refine Rcz ?_;exact VImp.refl _
theorem bC6 (f : FuncId) (he : n9 Tryz.prog f = true) (t0 : Tm) (p : List Nat) (hok : okP t0 p) (hN : a8 t0 < 2^28) (y : Tm) (h : FCall Tryz.prog G f [.pu (tmc 0 (d0 t0 p))] (.pu (tmc 0 y))) :
  HCall Tryz.prog G 152 [.pu (G7 p (l5 t0 p)), .ptr 835 [] 36] [(835, .var 36 (fV f))] [] (.pu (tmc 0 (I0 t0 p y))) [] [] := by
 have hpl := I1 hok
 have hwl := F3 hok
 have hat := aY1 (G := G) p (l5 t0 p) (by omega)
 have hwg := B3 hok (Nat.le_refl p.length)
 rw [List.take_length, List.getElem?_eq_getElem (by omega)] at hwg
 simp only [Option.some.injEq] at hwg
 rw [hwg] at hat
 have hkw : ∀ t ∈ l5 t0 p, t.kids.length < 2^30 := fun t ht => by have := ad5 hok t ht; have := af4 t; omega
 refine HCall.of_triD tbl 13 [] Tryz.func152 rfl rfl rfl fun w0 M ρ0 D0 => ?_
 refine Y36 ?_;refine b9 SS 3 ?_;refine b8 [2, 3] ?_;refine Y4 ?_;refine Y7 ?_;refine yC ?_;refine Y82 ?_;refine Dq hat ?_;refine b5 (p6 (fun _ => h) (he := he)) ?_;refine Dq (Q6 p (l5 t0 p) 0 y (by omega) (fun i hi => aa0 hok i hi) hkw (by omega) (by omega)) ?_;refine ay5 ?_;refine Rcz ?_;exact VImp.refl _
theorem bC5 (f : FuncId) (he : n9 Tryz.prog f = true) (t0 : Tm) (p : List Nat) (hok : okP t0 p) (hN : a8 t0 < 2^28) (y : Tm) (h : FCall Tryz.prog G f [.pu (tmc 0 (d0 t0 p))] (.pu (tmc 0 y))) :
  HCall Tryz.prog G 152 [.pu (G7 p (l5 t0 p)), .ptr 836 [] 36] [(836, .var 36 (fV f))] [] (.pu (tmc 0 (I0 t0 p y))) [] [] := by
 have hpl := I1 hok
 have hwl := F3 hok
 have hat := aY1 (G := G) p (l5 t0 p) (by omega)
 have hwg := B3 hok (Nat.le_refl p.length)
 rw [List.take_length, List.getElem?_eq_getElem (by omega)] at hwg
 simp only [Option.some.injEq] at hwg
 rw [hwg] at hat
 have hkw : ∀ t ∈ l5 t0 p, t.kids.length < 2^30 := fun t ht => by have := ad5 hok t ht; have := af4 t; omega
 refine HCall.of_triD tbl 13 [] Tryz.func152 rfl rfl rfl fun w0 M ρ0 D0 => ?_
 refine Y36 ?_;refine b9 SS 3 ?_;refine b8 [2, 3] ?_;refine Y4 ?_;refine Y7 ?_;refine yC ?_;refine Y82 ?_;refine Dq hat ?_;refine b5 (p6 (fun _ => h) (he := he)) ?_;refine Dq (Q6 p (l5 t0 p) 0 y (by omega) (fun i hi => aa0 hok i hi) hkw (by omega) (by omega)) ?_;refine ay5 ?_;refine Rcz ?_;exact VImp.refl _
end
section
variable {G : List (Nat × TypeId × Pu)}
abbrev ag8 (l : Nat) : PV := .fn (.func 152) [] [.ptr l [] 36]
abbrev cg5 : PV := .fn (.func 158) [] [.ptr 823 [] 149]
def ax9 (ts : List KT) : List (List Int × PV) := ts.map fun x => (x.1, .pu (tmc 0 x.2))
instance {V : TypeId} {ts : List KT} : NoLab (.map 28 V (X4 (ax9 ts))) := inferInstanceAs (NoLab (.map 28 V (X4 (ts.map fun x => (x.1, .pu (tmc 0 x.2))))))
theorem aS9 {ts : List KT} {i : Nat} (h : i < ts.length) : ax9 (ts.take (i + 1)) = ax9 (ts.take i) ++ [(ts[i].1, .pu (tmc 0 ts[i].2))] := by
 unfold ax9
 rw [List.take_succ_eq_append_getElem h, List.map_append]; rfl
theorem aF1 {ts : List KT} (h : ∀ x ∈ ts, x.1.length = 32) : ∀ x ∈ ax9 ts, x.1.length = 32 := by
 intro x hx
 obtain ⟨y, hy, rfl⟩ := List.mem_map.1 hx
 exact h y hy
def M0 (s : List Int) : List KT → Option Tm
 | [] => none
 | x :: l => if s = x.1 then some x.2 else M0 s l
theorem ai6 {s : List Int} : ∀ {ts : List KT}, aa8 s (ax9 ts) = (M0 s ts).map fun t => .pu (tmc 0 t)
 | [] => rfl
 | x :: ts => by
  have ih := ai6 (s := s) (ts := ts)
  unfold ax9 at ih ⊢
  simp only [List.map_cons, aa8, M0, ih]
  split <;> rfl
theorem bi6 {s : List Int} : ∀ {ts : List KT}, s ∉ ts.map (·.1) → M0 s ts = none
 | [], _ => rfl
 | x :: ts, h => by
  simp only [List.map_cons, List.mem_cons, not_or] at h
  simp only [M0, if_neg h.1]
  exact bi6 h.2
abbrev nilF : PV := .pu (.leaf .nilFunc)
abbrev runO (a b : Pu) (ts : List KT) (fs : List PV) : Ob := .var 181 (.agg 181 [.pu (wdP a b ts), .mp 822 28 32, .agg 179 fs])
abbrev ruO (a b : Pu) (ts : List KT) : List (Nat × Ob) := [(820, runO a b ts [nilF, ag8 831, ag8 832, ag8 833, ag8 834, ag8 835, fV 161, ag8 836]), (822, .map 28 32 (X4 (ax9 ts))), (823, .var 149 (.ptr 820 [] 181)),
 (831, .var 36 (fV 155)), (832, .var 36 (fV 157)), (833, .var 36 cg5), (834, .var 36 (fV 159)), (835, .var 36 (fV 160)), (836, .var 36 (fV 162))]
theorem bB6 : HCall Tryz.prog G 151 [fV 155] [] [] (ag8 831) [(831, .var 36 (fV 155))] [831] := by
 refine HCall.of_triD tbl 4 [] Tryz.func151 rfl rfl rfl fun w0 M ρ0 D0 => ?_
 refine yR ?_;refine p7 SS 831 ?_;refine yB ?_;refine b8 [831] ?_;refine Y46 ?_;refine Rqz ?_;exact VImp.refl _
theorem bB5 : HCall Tryz.prog G 151 [fV 157] [] [] (ag8 832) [(832, .var 36 (fV 157))] [832] := by
 refine HCall.of_triD tbl 4 [] Tryz.func151 rfl rfl rfl fun w0 M ρ0 D0 => ?_
 refine yR ?_;refine p7 SS 832 ?_;refine yB ?_;refine b8 [832] ?_;refine Y46 ?_;refine Rqz ?_;exact VImp.refl _
theorem bB3 : HCall Tryz.prog G 151 [fV 159] [] [] (ag8 834) [(834, .var 36 (fV 159))] [834] := by
 refine HCall.of_triD tbl 4 [] Tryz.func151 rfl rfl rfl fun w0 M ρ0 D0 => ?_
 refine yR ?_;refine p7 SS 834 ?_;refine yB ?_;refine b8 [834] ?_;refine Y46 ?_;refine Rqz ?_;exact VImp.refl _
theorem bB2 : HCall Tryz.prog G 151 [fV 160] [] [] (ag8 835) [(835, .var 36 (fV 160))] [835] := by
 refine HCall.of_triD tbl 4 [] Tryz.func151 rfl rfl rfl fun w0 M ρ0 D0 => ?_
 refine yR ?_;refine p7 SS 835 ?_;refine yB ?_;refine b8 [835] ?_;refine Y46 ?_;refine Rqz ?_;exact VImp.refl _
theorem bB1 : HCall Tryz.prog G 151 [fV 162] [] [] (ag8 836) [(836, .var 36 (fV 162))] [836] := by
 refine HCall.of_triD tbl 4 [] Tryz.func151 rfl rfl rfl fun w0 M ρ0 D0 => ?_
 refine yR ?_;refine p7 SS 836 ?_;refine yB ?_;refine b8 [836] ?_;refine Y46 ?_;refine Rqz ?_;exact VImp.refl _
theorem bB4 : HCall Tryz.prog G 151 [cg5] [] [] (ag8 833) [(833, .var 36 cg5)] [833] := by
 refine HCall.of_triD tbl 4 [823] Tryz.func151 rfl rfl rfl fun w0 M ρ0 D0 => ?_
 refine yR ?_;refine p7 SS 833 ?_;refine yB ?_;refine b8 [833] ?_;refine Y46 ?_;refine Rqz ?_;exact VImp.refl _
set_option maxHeartbeats 1000000 in
theorem aK0 (a b : Pu) (ts : List KT) (hnd : (ts.map (·.1)).Nodup) (hl : ts.length < 2^40) : HCall Tryz.prog G 94 [.pu (wdP a b ts)] [] [] (.ptr 820 [] 181) (ruO a b ts) [822, 820, 823, 831, 832, 833, 834, 835, 836] := by
 refine HCall.of_triE tbl 48 [] Tryz.func94 rfl rfl rfl rfl rfl (by repeat (first | exact .nil | refine .cons rfl rfl ?_ | refine .cons rfl cf0 ?_)) rfl fun w0 M ρ0 D0 => ?_
 refine Tri.fact (i := 0) rfl (fun D w x h => aZ2 h) (fun hr => ?_);refine Y85 ?_;refine Y4 ?_;refine aP6 822 ?_;refine yP ?_;refine p7 SS 820 ?_;refine b9 SS 823 ?_;refine yS ?_;refine b8 [822, 820, 823] ?_;refine Y78 ?_;refine yF ?_;refine Y7 ?_;refine Y43 ?_;refine Tri.block (Tri.loopW (σ := Nat) (fun i => ⟨[(3, .ptr 823 [] 149), (15, .pu (.sl 0 116 (ts.map ktP))), (16, iv .i64 (ts.map ktP).length), (17, iv .i64 i)], [(820, .var 181 (.agg 181 [.pu (wdP a b ts), .mp 822 28 32, .pu (.agg 179 (List.replicate 8 (.leaf .nilFunc)))])), (822, .map 28 32 (X4 (ax9 (ts.take i)))), (823, .var 149 (.ptr 820 [] 181))]⟩) (fun i => ts.length - i) 0 ?_ ?_ (fun i => ?_))
 ·exact zW
 ·exact zW
 refine Y41 ?_;refine Cq ?_ ?_
 ·intro h0
  have hi : i < ts.length := by simpa using h0
  have hr1 := hr _ (List.getElem_mem hi)
  have hr2 := aF1 (fun x hx => hr x (List.mem_of_mem_take hx)) (ts := ts.take i)
  have hdup := ap1 (l := ts.map (·.1)) (i := i) (by simpa using hi)
  rw [List.map_take.symm, List.map_take.symm, List.getElem_map] at hdup
  have hnew : ts[i].1 ∉ (ts.take i).map (·.1) := (hdup.1 (by rw [List.map_take]; exact hnd.sublist (List.take_sublist _ _))).2
  have hnone : aa8 ts[i].1 (ax9 (ts.take i)) = none := by rw [ai6, bi6 hnew]; rfl
  refine Y86 ?_;refine b5 (g9 SS (h0 := by omega) (hp := ab4 hi)) ?_;refine yL ?_;refine aC5 ?_;refine Y78 ?_;refine Y70 ?_;refine Y5 ?_;refine az2 SS (u := .pu (tmc 0 ts[i].2)) rfl rfl rfl rfl (VImp.refl _) rfl (VImp.refl _) rfl (al5 _) (O2 _ [] ).2.2.1 (ag1 hr1 hr2 hnone) (labs := []) (fun l' h => by rw [NoLab.ok] at h; exact h) ?_;refine J2 ?_;refine Y33 ?_
  refine ⟨i + 1, by omega, i9 ?_ ?_⟩
  ·repeat (first | exact SubE.nil | refine SubE.cons rfl (by first | rfl | (rw [b7 (by omega) (by omega)]; rfl) | (simp only [aS9 hi, aa7])) ?_)
  ·repeat (first | exact SubH.nil | refine SubH.cons rfl (by first | rfl | (rw [b7 (by omega) (by omega)]; rfl) | (simp only [aS9 hi, aa7])) ?_)
 ·intro h0
  have hi : ts.length ≤ i := by simpa using h0
  rw [List.take_of_length_le hi];refine Tri.exit ?_;refine Y21 ?_;refine Y65 ?_;refine B7 (bB6) ?_;refine yM ?_;refine B7 (bB5) ?_;refine yM ?_;refine b5 (J7 SS) ?_;refine B7 (bB4) ?_;refine yM ?_;refine B7 (bB3) ?_;refine yM ?_;refine B7 (bB2) ?_;refine yM ?_;refine B7 (bB1) ?_;refine yP ?_;refine yY ?_;refine yF ?_;refine yS ?_;refine A5 [831, 832, 833, 834, 835, 836] ?_;refine Y4 ?_;refine Y2 ?_;refine Rqz ?_;exact VImp.refl _
end
section
variable {G : List (Nat × TypeId × Pu)}
theorem bY3 (a b : Pu) (ts : List KT) (hts : ∀ x ∈ ts, x.1.length = 32) (t y : Tm) (hy : M0 t.ref ts = some y) : HCall Tryz.prog G 158 [.pu (tmc 0 t), .ptr 823 [] 149] (ruO a b ts) [] (.pu (tmc 0 y)) [] [] := by
 obtain ⟨k, n, r, ks, cs⟩ := t
 simp only [Tm.ref] at hy
 refine HCall.of_triD tbl 11 [] Tryz.func158 rfl rfl rfl fun w0 M ρ0 D0 => ?_
 refine Tri.fact (i := 0) rfl (fun D w x h => ab7 h) (fun hr => ?_)
 have hget : af0 Tryz.prog SS 28 32 (l4 r) (X4 (ax9 ts)) = some (.pu (tmc 0 y), true) := ai5 hr.1 (aF1 hts) (by rw [ai6, hy]; rfl)
 refine Y36 ?_;refine b9 SS 3 ?_;refine b8 [2, 3] ?_;refine Y78 ?_;refine Y70 ?_;refine b5 (ar0 SS rfl rfl rfl (VImp.refl _) (al5 _) (O2 _ []).2.2.1 hget) ?_;refine ay5 ?_;refine Rcz ?_;exact VImp.refl _
theorem bC8 (a b : Pu) (ts : List KT) (hts : ∀ x ∈ ts, x.1.length = 32) (t0 : Tm) (p : List Nat) (hok : okP t0 p) (hN : a8 t0 < 2^28) (y : Tm) (hy : M0 (d0 t0 p).ref ts = some y) :
  HCall Tryz.prog G 152 [.pu (G7 p (l5 t0 p)), .ptr 833 [] 36] (ruO a b ts) [] (.pu (tmc 0 (I0 t0 p y))) [] [] := by
 have hpl := I1 hok
 have hwl := F3 hok
 have hat := aY1 (G := G) p (l5 t0 p) (by omega)
 have hwg := B3 hok (Nat.le_refl p.length)
 rw [List.take_length, List.getElem?_eq_getElem (by omega)] at hwg
 simp only [Option.some.injEq] at hwg
 rw [hwg] at hat
 have hkw : ∀ t ∈ l5 t0 p, t.kids.length < 2^30 := fun t ht => by have := ad5 hok t ht; have := af4 t; omega
 refine HCall.of_triD tbl 13 [] Tryz.func152 rfl rfl rfl fun w0 M ρ0 D0 => ?_
 refine Y36 ?_;refine b9 SS 3 ?_;refine b8 [2, 3] ?_;refine Y4 ?_;refine Y7 ?_;refine yC ?_;refine Y82 ?_;refine Dq hat ?_;refine b5 (p6 (fun _ => bY3 a b ts hts (d0 t0 p) y hy)) ?_;refine Dq (Q6 p (l5 t0 p) 0 y (by omega) (fun i hi => aa0 hok i hi) hkw (by omega) (by omega)) ?_;refine ay5 ?_;refine Rcz ?_;exact VImp.refl _
def z7 (ts : List KT) (way : List Tm) (len : Nat) : Tm → Int
 | .mk k n r ks cs =>
  if k = 4 then (match ks[0]? with | some f => cond (f.kind == 3) 1 8 | none => 8)
  else if k = 5 then 2
  else if k = 6 then cond (M0 r ts).isSome 3 8
  else if k = 10 then cond (ks.all (fun x => x.kind == 2)) 4 8
  else if k = 9 then (match ks[0]? with | some v => cond ((u7 cs v).kind != 0) 5 8 | none => 8)
  else if k = 11 then (if p8 way r len < 0 then 9 else match way[(p8 way r len).toNat]? with
   | some h => cond (decide ((h.kids.length : Int) > 2 + n)) 6 8
   | none => 8)
  else if k = 12 then 7 else 8
def y6 (ts : List KT) (t0 : Tm) (p : List Nat) : Int := z7 ts (l5 t0 p) p.length (d0 t0 p)
theorem af5 (way : List Tm) (r : List Int) : ∀ n, p8 way r n < n ∧ -1 ≤ p8 way r n
 | 0 => by simp [p8]
 | n + 1 => by
  have := af5 way r n
  simp only [p8]
  split
  ·split
   ·constructor <;> omega
   ·omega
  ·omega
theorem bV9 (t : Tm) : FCall Tryz.prog G 163 [.pu (tmc 0 t)] (bv (t.kind == 2)) := by
 obtain ⟨k, n, r, ks, cs⟩ := t
 refine Fq 6 Tryz.func163 ?_;intro w0 M ρ0 D0
 refine Y85 ?_;refine Y24 ?_;refine Y2 ?_;refine Rq ?_;exact ToPu.imp (by repeat constructor)
set_option maxHeartbeats 2000000 in
theorem bn5 (a b : Pu) (ts : List KT) (hts : ∀ x ∈ ts, x.1.length = 32) (t0 : Tm) (p : List Nat) (hok : okP t0 p) (hN : a8 t0 < 2^28) (hsh : y7 (d0 t0 p).kind (d0 t0 p).kids.length = true) (hnum : (d0 t0 p).kind = 11 → 0 ≤ (d0 t0 p).num ∧ (d0 t0 p).num ≤ 7) :
  HCall Tryz.prog G 95 [.ptr 820 [] 181, .pu (G7 p (l5 t0 p))] (ruO a b ts) [] (iv .i64 (y6 ts t0 p)) [] [] := by
 have hpl := I1 hok
 have hwl := F3 hok
 have hat := aY1 (G := G) p (l5 t0 p) (by omega)
 have hwg := B3 hok (Nat.le_refl p.length)
 rw [List.take_length, List.getElem?_eq_getElem (by omega)] at hwg
 simp only [Option.some.injEq] at hwg
 rw [hwg] at hat
 have hsz := t5 (t := t0) (p := p)
 have hmem : d0 t0 p ∈ l5 t0 p := hwg ▸ List.getElem_mem _
 unfold y6
 generalize hw : d0 t0 p = w at hat hsh hnum hsz hmem ⊢
 obtain ⟨k, n, r, ks, cs⟩ := w
 simp only [Tm.kind, Tm.kids, Tm.num] at hsh hnum
 have hszk : 1 + d7 ks + f6 cs ≤ a8 t0 := by simpa only [a8] using hsz
 have hlen := f9 ks
 have hhl := af5 (l5 t0 p) r p.length
 refine HCall.of_triD tbl 76 [] Tryz.func95 rfl rfl rfl fun w0 M ρ0 D0 => ?_
 refine Tri.fact (i := 1) rfl (fun D w x h => br3 h) (fun hr0 => ?_)
 have hrl : r.length = 32 := (ah4 hr0 _ hmem).1
 refine Y49 ?_;refine yB ?_;refine b8 [3] ?_;refine Y4 ?_;refine Dq hat ?_;refine aC5 ?_;refine Y13 ?_;refine Y0 ?_;refine Tri.block ?_;refine Y18 ?_;refine Cq ?_ ?_
 ·intro h0
  have hk : k = 4 := by simpa using h0
  have h2 : 0 < ks.length := by rw [hk] at hsh; simp [y7] at hsh; omega
  have g0 := q7 (lo := 0) h2
  have hsp : z7 ts (l5 t0 p) p.length (.mk k n r ks cs) = cond ((ks[0]).kind == 3) 1 8 := by simp only [z7, hk, List.getElem?_eq_getElem h2] <;> rfl
  generalize ks[0] = f at g0 hsp
  obtain ⟨fk, fn, fr, fks, fcs⟩ := f
  simp only [Tm.kind] at hsp
  refine Y14 ?_;refine Xq g0 ?_;refine Y54 ?_;refine Y0 ?_;refine Cq ?_ ?_
  ·intro h1
   rw [h1] at hsp
   refine Y10 ?_;refine Rqz ?_;exact c7 (by first | exact hsp.symm | cases h4)
  ·intro h1
   rw [h1] at hsp
   refine Y45 ?_;refine Rqz ?_;exact c7 (by first | exact hsp.symm | cases h4)
 ·intro h0
  refine Y18 ?_;refine Cq ?_ ?_
  ·intro h2
   have hk : k = 5 := by simpa using h2
   have hsp : z7 ts (l5 t0 p) p.length (.mk k n r ks cs) = 2 := by simp only [z7, hk] <;> rfl
   refine Y10 ?_;refine Rqz ?_;exact c7 (by first | exact hsp.symm | cases h4)
  ·intro h2
   refine Y18 ?_;refine Cq ?_ ?_
   ·intro h3
    have hk : k = 6 := by simpa using h3
    have hsp : z7 ts (l5 t0 p) p.length (.mk k n r ks cs) = cond (M0 r ts).isSome 3 8 := by simp only [z7, hk] <;> rfl
    rcases hb : M0 r ts with _ | y
    all_goals
     rw [hb] at hsp
     refine Y1 ?_;refine yY ?_;refine Y70 ?_
     first | refine b5 (ar0 SS rfl rfl rfl (VImp.refl _) (al5 _) (O2 _ []).2.2.1 (ai5 hrl (aF1 hts) (by rw [ai6, hb]; rfl))) ?_ | refine b5 (ar0 SS rfl rfl rfl (VImp.refl _) (al5 _) (O2 _ []).2.2.1 (aA1 (z := .agg 32 [iv .i64 0, iv .i64 0, .pu (l4 Z32), .nilc, .nilc]) (by kernel_rfl) hrl (aF1 hts) (by rw [ai6, hb]; rfl))) ?_
     refine Y28 ?_;refine b9 SS 6 ?_;refine yS ?_;refine yA ?_;refine A5 [6] ?_;refine Y1 ?_;refine Y0 ?_;refine Cq ?_ ?_
     ·intro h4
      refine Y10 ?_;refine Rqz ?_;exact c7 (by first | exact hsp.symm | cases h4)
     ·intro h4
      refine Y45 ?_;refine Rqz ?_;exact c7 (by first | exact hsp.symm | cases h4)
   ·intro h3
    refine Y18 ?_;refine Cq ?_ ?_
    ·intro h5
     have hk : k = 10 := by simpa using h5
     have hsp : z7 ts (l5 t0 p) p.length (.mk k n r ks cs) = cond (ks.all (fun x => x.kind == 2)) 4 8 := by simp only [z7, hk] <;> rfl
     refine Y14 ?_;refine Dq (bv4 163 (by kernel_rfl) (fun x => x.kind == 2) ks (by omega) (fun x _ => bV9 x)) ?_;refine Y0 ?_;refine Cq ?_ ?_
     ·intro h6
      rw [h6] at hsp
      refine Y10 ?_;refine Rqz ?_;exact c7 (by first | exact hsp.symm | cases h4)
     ·intro h6
      rw [h6] at hsp
      refine Y45 ?_;refine Rqz ?_;exact c7 (by first | exact hsp.symm | cases h4)
    ·intro h5
     refine Y18 ?_;refine Cq ?_ ?_
     ·intro h7
      have hk : k = 9 := by simpa using h7
      have h2 : 0 < ks.length := by rw [hk] at hsh; simp [y7] at hsh; omega
      have hmc := aR2 (G := G) k n r ks cs h2 (by simp only [a8]; omega)
      have hsp : z7 ts (l5 t0 p) p.length (.mk k n r ks cs) = cond ((u7 cs ks[0]).kind != 0) 5 8 := by simp only [z7, hk, List.getElem?_eq_getElem h2] <;> rfl
      generalize u7 cs ks[0] = y at hmc hsp
      obtain ⟨yk, yn, yr, yks, ycs⟩ := y
      simp only [Tm.kind] at hsp
      refine Y4 ?_;refine Dq (hmc.at (u := .pu (tmc 0 (.mk yk yn yr yks ycs))) (fun m => (A0 (Nat.zero_le m) _).imp)) ?_;refine b5 (an7 SS (ht := TyV.ok)) ?_;refine yI ?_;refine Y0 ?_;refine Cq ?_ ?_
      ·intro h8
       rw [h8] at hsp
       refine Y10 ?_;refine Rqz ?_;exact c7 (by first | exact hsp.symm | cases h4)
      ·intro h8
       rw [h8] at hsp
       refine Y45 ?_;refine Rqz ?_;exact c7 (by first | exact hsp.symm | cases h4)
     ·intro h7
      refine Y18 ?_;refine Cq ?_ ?_
      ·intro h9
       have hk : k = 11 := by simpa using h9
       have hnum := hnum hk
       have hsp : z7 ts (l5 t0 p) p.length (.mk k n r ks cs) = (if p8 (l5 t0 p) r p.length < 0 then 9 else match (l5 t0 p)[(p8 (l5 t0 p) r p.length).toNat]? with | some h => cond (decide ((h.kids.length : Int) > 2 + n)) 6 8 | none => 8) := by simp only [z7, hk] <;> rfl
       refine Y4 ?_;refine b5 (J7 SS) ?_;refine Y8 ?_;refine Y1 ?_;refine Y70 ?_;refine yP ?_;refine b5 (p6 (fun _ => aR7 p (l5 t0 p) r n (by omega) (by omega))) ?_;refine Y2 ?_;refine Tri.block ?_;refine Y76 ?_;refine Cq ?_ ?_
       ·intro h10
        rw [if_pos (by simpa using h10)] at hsp
        refine Y10 ?_;refine Rqz ?_;exact c7 (by first | exact hsp.symm | cases h4)
       ·intro h10
        have hnn : 0 ≤ p8 (l5 t0 p) r p.length := by simpa using h10
        rw [if_neg (by omega)] at hsp
        have hlt : (p8 (l5 t0 p) r p.length).toNat < (l5 t0 p).length := by omega
        have gw := q7 (lo := 0) hlt
        rw [List.getElem?_eq_getElem hlt] at hsp
        simp only at hsp
        generalize (l5 t0 p)[(p8 (l5 t0 p) r p.length).toNat] = x at gw hsp
        obtain ⟨xk, xn, xr, xks, xcs⟩ := x
        simp only [Tm.kids] at hsp
        refine Y60 ?_;refine b5 (g9 SS (h0 := hnn) (hp := gw)) ?_;refine Y7 ?_;refine yC ?_;refine Y54 ?_;refine yI ?_;refine yA ?_;refine Y42 ?_;refine Cq ?_ ?_
        ·intro h11
         rw [a9, b7 (by omega) (by omega)] at h11
         replace hsp := hsp.trans (show _ = (6 : Int) from by have h := of_decide_eq_true h11; simp [h])
         refine Y10 ?_;refine Rqz ?_;exact c7 (by first | exact hsp.symm | cases h4)
        ·intro h11
         rw [a9, b7 (by omega) (by omega)] at h11
         replace hsp := hsp.trans (show _ = (8 : Int) from by have h := of_decide_eq_false h11; simp only [gt_iff_lt] at h; simp [h])
         refine Y45 ?_;refine Rqz ?_;exact c7 (by first | exact hsp.symm | cases h4)
      ·intro h9
       refine Y18 ?_;refine Cq ?_ ?_
       ·intro h12
        have hk : k = 12 := by simpa using h12
        have hsp : z7 ts (l5 t0 p) p.length (.mk k n r ks cs) = 7 := by simp only [z7, hk] <;> rfl
        refine Y10 ?_;refine Rqz ?_;exact c7 (by first | exact hsp.symm | cases h4)
       ·intro h12
        have hsp : z7 ts (l5 t0 p) p.length (.mk k n r ks cs) = 8 := by
         simp only [beq_eq_false_iff_ne, ne_eq] at h0 h2 h3 h5 h7 h9 h12
         simp only [z7, if_neg h0, if_neg h2, if_neg h3, if_neg h5, if_neg h7, if_neg h9, if_neg h12]
        refine Y45 ?_;refine Rqz ?_;exact c7 (by first | exact hsp.symm | cases h4)
end
section
variable {mn md : Int}
mutual
theorem bu0 : ∀ (p : Pat) (d c : Int), (n4 mn md d c p).1 = false → (n4 mn md d c p).2 = c + l9 p
 | .mk _ _ _ ks, d, c, h => by
  simp only [n4, l9] at h ⊢
  split at h
  ·cases h
  ·rename_i hn
   rw [if_neg hn]
   have := be6 ks (d + 1) (c + 1) h
   rw [this]; omega
theorem be6 : ∀ (ks : List Pat) (d c : Int), (A2 mn md d c ks).1 = false → (A2 mn md d c ks).2 = c + u5 ks
 | [], d, c, h => by simp [A2, u5]
 | p :: ps, d, c, h => by
  have h1 := bu0 p d c
  simp only [A2, u5] at h ⊢
  rcases hs : n4 mn md d c p with ⟨b, c'⟩
  rw [hs] at h1 h
  cases b
  ·have h1 := h1 rfl
   have h2 := be6 ps d c' h
   simp only at h1 h2 ⊢
   rw [h2, h1]; omega
  ·cases h
end
mutual
theorem aV9 : ∀ (t : Tm) (d c : Int), (m2 mn md d c t).1 = false → (m2 mn md d c t).2 = c + a8 t
 | .mk _ _ _ ks cs, d, c, h => by
  simp only [m2, a8] at h ⊢
  split at h
  ·cases h
  ·rename_i hn
   rw [if_neg hn]
   have h1 := be5 ks (d + 1) (c + 1)
   rcases hs : o6 mn md (d + 1) (c + 1) ks with ⟨b, c'⟩
   rw [hs] at h1 h
   cases b
   ·have h1 := h1 rfl
    have h2 := be9 cs (d + 1) c' h
    simp only at h1 h2 ⊢
    rw [h2, h1]; omega
   ·cases h
theorem be5 : ∀ (ks : List Tm) (d c : Int), (o6 mn md d c ks).1 = false → (o6 mn md d c ks).2 = c + d7 ks
 | [], d, c, h => by simp [o6, d7]
 | p :: ps, d, c, h => by
  have h1 := aV9 p d c
  simp only [o6, d7] at h ⊢
  rcases hs : m2 mn md d c p with ⟨b, c'⟩
  rw [hs] at h1 h
  cases b
  ·have h1 := h1 rfl
   have h2 := be5 ps d c' h
   simp only at h1 h2 ⊢
   rw [h2, h1]; omega
  ·cases h
theorem bV4 : ∀ (x : Cs) (d c : Int), (G8 mn md d c x).1 = false → (G8 mn md d c x).2 = c + p9 x
 | .mk p t, d, c, h => by
  have h1 := bu0 (mn := mn) (md := md) p d c
  simp only [G8, p9] at h ⊢
  rcases hs : n4 mn md d c p with ⟨b, c'⟩
  rw [hs] at h1 h
  cases b
  ·have h1 := h1 rfl
   have h2 := aV9 t d c' h
   simp only at h1 h2 ⊢
   rw [h2, h1]; omega
  ·cases h
theorem be9 : ∀ (ks : List Cs) (d c : Int), (r9 mn md d c ks).1 = false → (r9 mn md d c ks).2 = c + f6 ks
 | [], d, c, h => by simp [r9, f6]
 | p :: ps, d, c, h => by
  have h1 := bV4 p d c
  simp only [r9, f6] at h ⊢
  rcases hs : G8 mn md d c p with ⟨b, c'⟩
  rw [hs] at h1 h
  cases b
  ·have h1 := h1 rfl
   have h2 := be9 ps d c' h
   simp only at h1 h2 ⊢
   rw [h2, h1]; omega
  ·cases h
end
theorem Q5 {t : Tm} {d c : Int} (hc : c ≤ mn) (h : (m2 mn md d c t).1 = false) : c + a8 t ≤ mn := by
 have h1 := aV9 t d c h
 have h2 := (al7 (mn := mn) (md := md) t d c hc).2.2 h
 omega
theorem M6 : shT j7 := by simp [j7, shT, shL, shC, y7]
theorem cd5 (n : Int) : shT (aV8 n) := by simp [aV8, shT, shL, shC, y7]
theorem cd3 : shT V2 := by simp [V2, shT, shL, shC, y7]
mutual
theorem aH0 (vs : List Tm) (hv : ∀ v ∈ vs, shT v) : ∀ (t : Tm) (d : Int), shT t → shT (o5 vs d t)
 | .mk k n r ks cs, d, h => by
  simp only [shT] at h
  obtain ⟨h1, h2, h3, h4⟩ := h
  have k1 := br4 vs hv ks d k 0 h3
  have k2 := br5 vs hv cs d h4
  simp only [o5]
  split
  ·rename_i hC
   split
   ·exact hv _ (List.getElem_mem _)
   ·refine ⟨by rw [O6]; exact h1, fun e => ?_, k1, k2⟩
    rw [hC.1] at e; cases e
  ·exact ⟨by rw [O6]; exact h1, h2, k1, k2⟩
theorem br4 (vs : List Tm) (hv : ∀ v ∈ vs, shT v) : ∀ (ks : List Tm) (d k : Int) (i : Nat), shL ks → shL (G5 vs d k i ks)
 | [], _, _, _, _ => trivial
 | t :: ts, d, k, i, h => ⟨aH0 vs hv t _ h.1, br4 vs hv ts d k (i + 1) h.2⟩
theorem br5 (vs : List Tm) (hv : ∀ v ∈ vs, shT v) : ∀ (cs : List Cs) (d : Int), shC cs → shC (E8 vs d cs)
 | [], _, _ => trivial
 | c :: cs, d, h => ⟨bT0 vs hv c d h.1, br5 vs hv cs d h.2⟩
theorem bT0 (vs : List Tm) (hv : ∀ v ∈ vs, shT v) : ∀ (c : Cs) (d : Int), shS c → shS (aw0 vs d c)
 | .mk q t, d, h => aH0 vs hv t _ h
end
theorem S6 {t x : Tm} {i : Nat} (h : shT t) (hx : t.kids[i]? = some x) : shT x := by
 obtain ⟨k, n, r, ks, cs⟩ := t
 exact aD0 h.2.2.1 _ (List.mem_of_getElem? hx)
theorem H3 : ∀ {t : Tm} {p : List Nat}, shT t → shT (d0 t p)
 | t, [], h => h
 | t, i :: p, h => by
  simp only [d0]
  split
  ·rename_i x hx; exact H3 (S6 h hx)
  ·exact h
theorem br7 : ∀ {ks : List Tm} {j : Nat} {x : Tm}, shL ks → shT x → shL (ks.set j x)
 | [], _, _, _, _ => trivial
 | t :: ts, 0, x, h, hx => ⟨hx, h.2⟩
 | t :: ts, j + 1, x, h, hx => ⟨h.1, br7 h.2 hx⟩
theorem cd4 {t x : Tm} {j : Nat} (h : shT t) (hx : shT x) : shT (O3 t j x) := by
 obtain ⟨k, n, r, ks, cs⟩ := t
 exact ⟨by rw [List.length_set]; exact h.1, h.2.1, br7 h.2.2.1 hx, h.2.2.2⟩
theorem aC9 {t : Tm} {p : List Nat} (hok : okP t p) (ht : shT t) (lo : Nat) : ∀ (hi : Nat) (x : Tm), hi ≤ p.length → shT x → shT (v8 (l5 t p) p lo hi x)
 | 0, x, _, h => h
 | n + 1, x, hn, h => by
  simp only [v8]
  split
  ·exact h
  ·rw [B3 hok (by omega), List.getElem?_eq_getElem (show n < p.length by omega)]
   exact aC9 hok ht lo n _ (by omega) (cd4 (H3 ht) h)
mutual
theorem br6 : ∀ (p : Pat) (v : Tm), shT v → ∀ x ∈ (p5 p v).1, shT x
 | .mk k n r ks, v, h, x, hx => by
  simp only [p5] at hx
  split at hx
  ·simp at hx; rw [hx]; exact h
  ·split at hx
   ·simp at hx
   ·split at hx
    ·split at hx
     ·simp at hx
     ·obtain ⟨k', n', r', ks', cs'⟩ := v
      exact bb1 ks ks' h.2.2.1 x hx
    ·simp at hx
theorem bb1 : ∀ (ps : List Pat) (vs : List Tm), shL vs → ∀ x ∈ (r8 ps vs).1, shT x
 | [], vs, _, x, hx => by simp [r8] at hx
 | _ :: _, [], _, x, hx => by simp [r8] at hx
 | p :: ps, v :: vs, h, x, hx => by
  simp only [r8, J1] at hx
  split at hx
  ·rcases List.mem_append.1 hx with h' | h'
   ·exact br6 p v h.1 x h'
   ·exact bb1 ps vs h.2 x h'
  ·simp at hx
end
theorem bb0 : ∀ (cs : List Cs) (v : Tm), shC cs → shT v → shT (u7 cs v)
 | [], v, _, _ => M6
 | .mk q b :: cs, v, h, hv => by
  simp only [u7]
  split
  ·exact aH0 _ (br6 q v hv) b 0 h.1
  ·exact bb0 cs v h.2 hv
mutual
theorem ac1 (vs : List Tm) (B : Nat) (hv : ∀ v ∈ vs, a8 v ≤ B) : ∀ (t : Tm) (d : Int), a8 (o5 vs d t) ≤ a8 t * (1 + B)
 | .mk k n r ks cs, d => by
  have k1 := aQ1 vs B hv ks d k 0
  have k2 := aQ2 vs B hv cs d
  have e : a8 (.mk k n r ks cs) * (1 + B) = (1 + B) + d7 ks * (1 + B) + f6 cs * (1 + B) := by simp only [a8]; rw [Nat.add_mul, Nat.add_mul, Nat.one_mul]
  rw [e]
  simp only [o5]
  split
  ·split
   ·have := hv _ (List.getElem_mem (l := vs) (n := vs.length - 1 - (IntKind.wrap .i64 (n - d)).toNat) (by omega))
    omega
   ·simp only [a8]; omega
  ·simp only [a8]; omega
theorem aQ1 (vs : List Tm) (B : Nat) (hv : ∀ v ∈ vs, a8 v ≤ B) : ∀ (ks : List Tm) (d k : Int) (i : Nat), d7 (G5 vs d k i ks) ≤ d7 ks * (1 + B)
 | [], _, _, _ => by simp [G5, d7]
 | t :: ts, d, k, i => by
  have h1 := ac1 vs B hv t (d + j8 k i)
  have h2 := aQ1 vs B hv ts d k (i + 1)
  simp only [G5, d7, Nat.add_mul]; omega
theorem aQ2 (vs : List Tm) (B : Nat) (hv : ∀ v ∈ vs, a8 v ≤ B) : ∀ (cs : List Cs) (d : Int), f6 (E8 vs d cs) ≤ f6 cs * (1 + B)
 | [], _ => by simp [E8, f6]
 | c :: cs, d => by
  have h1 := bA7 vs B hv c d
  have h2 := aQ2 vs B hv cs d
  simp only [E8, f6, Nat.add_mul]; omega
theorem bA7 (vs : List Tm) (B : Nat) (hv : ∀ v ∈ vs, a8 v ≤ B) : ∀ (c : Cs) (d : Int), p9 (aw0 vs d c) ≤ p9 c * (1 + B)
 | .mk q t, d => by
  have h1 := ac1 vs B hv t (d + m7 q)
  have h2 : l9 q ≤ l9 q * (1 + B) := Nat.le_mul_of_pos_right _ (by omega)
  simp only [aw0, p9, Nat.add_mul] at h1 h2 ⊢; omega
end
theorem aK4 : ∀ (cs : List Cs) (v : Tm), a8 (u7 cs v) ≤ (1 + f6 cs) * (1 + a8 v)
 | [], v => by simp [u7, j7, a8, d7, f6]
 | .mk q b :: cs, v => by
  have h1 := ac1 (p5 q v).1 (a8 v) (at9 q v) b 0
  have h2 := aK4 cs v
  have h3 : a8 b * (1 + a8 v) ≤ (1 + (l9 q + a8 b + f6 cs)) * (1 + a8 v) := Nat.mul_le_mul_right _ (by omega)
  have h4 : (1 + f6 cs) * (1 + a8 v) ≤ (1 + (l9 q + a8 b + f6 cs)) * (1 + a8 v) := Nat.mul_le_mul_right _ (by omega)
  simp only [u7, f6, p9]
  split <;> omega
end
section
variable {G : List (Nat × TypeId × Pu)}
theorem B1 {a b : Int} (h : orE a b = 0) : a = 0 ∧ b = 0 := by
 unfold orE at h
 split at h
 ·exact ⟨by assumption, h⟩
 ·contradiction
theorem bk8 {m d b k n : Int} {r : List Int} {nk nc : Int} (h : f8 m d b k n r nk nc = 0) : y7 k nk = true ∧ (k = 11 → 0 ≤ n ∧ n ≤ 7) := by
 unfold f8 at h
 cases h1 : J0 k 1 12 with
 | true => simp [h1] at h
 | false =>
 cases h2 : E5 (E7 k) (G1 k) (A8 k) n r nc with
 | true => simp [h1, h2] at h
 | false =>
 cases h3 : (!y7 k nk || decide (nc > 8)) with
 | true => rw [h1, h2, h3] at h; simp at h
 | false =>
 rw [h1, h2, h3] at h
 refine ⟨by simp at h3; exact h3.1, fun e => ?_⟩
 subst e
 simp [J0] at h
 omega
mutual
theorem aY3 {m d : Int} : ∀ (t : Tm) (b : Int), H8 m d b t = 0 → shT t
 | .mk k n r ks cs, b, h => by
  simp only [H8] at h
  obtain ⟨h1, h⟩ := B1 h
  obtain ⟨_, h⟩ := B1 h
  obtain ⟨h2, h3⟩ := B1 h
  obtain ⟨k1, k2⟩ := bk8 h1
  exact ⟨k1, k2, bj2 ks b k 0 h2, bj5 cs b h3⟩
theorem bj2 {m d : Int} : ∀ (ks : List Tm) (b k : Int) (i : Nat), S4 m d b k i ks = 0 → shL ks
 | [], _, _, _, _ => trivial
 | t :: ts, b, k, i, h => by
  simp only [S4] at h
  obtain ⟨h1, h2⟩ := B1 h
  exact ⟨aY3 t _ h1, bj2 ts b k (i + 1) h2⟩
theorem bj5 {m d : Int} : ∀ (cs : List Cs) (b : Int), T7 m d b cs = 0 → shC cs
 | [], _, _ => trivial
 | c :: cs, b, h => by
  simp only [T7] at h
  obtain ⟨h1, h2⟩ := B1 h
  exact ⟨bR6 c b h1, bj5 cs b h2⟩
theorem bR6 {m d : Int} : ∀ (c : Cs) (b : Int), Q8 m d b c = 0 → shS c
 | .mk q t, b, h => aY3 t _ h
end
theorem r7 {t : Tm} {d m : Int} (h : n6 t d m = 0) : shT t ∧ a8 t ≤ 300 := by
 unfold n6 at h
 split at h
 ·cases h
 ·rename_i hl
  have := Q5 (mn := 300) (md := 60) (t := t) (d := 1) (c := 0) (by omega) (by simpa using hl)
  exact ⟨aY3 t 0 h, by omega⟩
def bj0 (w : Tm) : Tm := match w.kids[0]?, w.kids[1]? with
 | some f, some x => match f.kids[0]? with
  | some b => o5 [x] 0 b
  | none => j7
 | _, _ => j7
def at3 (w : Tm) : Tm := match w.kids[0]?, w.kids[1]? with
 | some x, some b => o5 [x] 0 b
 | _, _ => j7
def bd4 (w : Tm) : Tm := match w.kids[0]?, w.kids[1]? with
 | some x, some y => as4 w.num x.num y.num
 | _, _ => j7
def be4 (w : Tm) : Tm := match w.kids[0]? with
 | some v => u7 w.cases v
 | none => j7
def doM (t0 : Tm) (p : List Nat) : Tm :=
 match (d0 t0 p).kids[0]?, (d0 t0 (p.take (p8 (l5 t0 p) (d0 t0 p).ref p.length).toNat)).kids[(2 + (d0 t0 p).num).toNat]? with
 | some a, some b => v8 (l5 t0 p) p 0 (p8 (l5 t0 p) (d0 t0 p).ref p.length).toNat (o5 [a, I4 t0 p (p8 (l5 t0 p) (d0 t0 p).ref p.length).toNat] 0 b)
 | _, _ => j7
def r5 (ts : List KT) (t0 : Tm) (p : List Nat) (k : Int) : Tm :=
 if k = 1 then I0 t0 p (bj0 (d0 t0 p)) else if k = 2 then I0 t0 p (at3 (d0 t0 p)) else if k = 3 then I0 t0 p ((M0 (d0 t0 p).ref ts).getD j7)
 else if k = 4 then I0 t0 p (bd4 (d0 t0 p)) else if k = 5 then I0 t0 p (be4 (d0 t0 p)) else if k = 6 then doM t0 p else I0 t0 p (at3 (d0 t0 p))
theorem aE1 {k n : Int} {r : List Int} {ks : List Tm} {cs : List Cs} : (Tm.mk k n r ks cs).kind = k := rfl
theorem aw6 {k n : Int} {r : List Int} {ks : List Tm} {cs : List Cs} : (Tm.mk k n r ks cs).num = n := rfl
theorem av9 {k n : Int} {r : List Int} {ks : List Tm} {cs : List Cs} : (Tm.mk k n r ks cs).ref = r := rfl
theorem H5 {k n : Int} {r : List Int} {ks : List Tm} {cs : List Cs} : (Tm.mk k n r ks cs).kids = ks := rfl
theorem E3 {ts : List KT} {way : List Tm} {len : Nat} {w : Tm} {j : Int} (h : z7 ts way len w = j) :
  (j = 1 → w.kind = 4 ∧ ∃ f, w.kids[0]? = some f ∧ f.kind = 3) ∧ (j = 2 → w.kind = 5) ∧ (j = 3 → w.kind = 6 ∧ (M0 w.ref ts).isSome = true) ∧ (j = 4 → w.kind = 10) ∧ (j = 5 → w.kind = 9) ∧
  (j = 6 → w.kind = 11 ∧ 0 ≤ p8 way w.ref len ∧ ∃ x, way[(p8 way w.ref len).toNat]? = some x ∧ (x.kids.length : Int) > 2 + w.num) ∧ (j = 7 → w.kind = 12) ∧ (1 ≤ j ∧ j ≤ 9) ∧ (j = 9 → w.kind = 11) := by
 obtain ⟨k, n, r, ks, cs⟩ := w
 simp only [aE1, H5, av9, aw6]
 simp only [z7] at h
 subst h
 split
 ·subst k
  cases hf : ks[0]? with
  | none => simp
  | some f =>
   simp only
   generalize hb : (f.kind == 3) = bb
   cases bb
   ·simp
   ·have : f.kind = 3 := by simpa using hb
    simp [this]
 ·split
  ·simp_all
  ·split
   ·subst k
    generalize hb : (M0 r ts).isSome = bb
    cases bb <;> simp
   ·split
    ·generalize hb : ks.all (fun x => x.kind == 2) = bb
     cases bb <;> simp_all
    ·split
     ·subst k
      cases hf : ks[0]? with
      | none => simp
      | some f =>
       simp only
       generalize hb : ((u7 cs f).kind != 0) = bb
       cases bb <;> simp
     ·split
      ·subst k
       split
       ·simp
       ·rename_i hn
        cases hx : way[(p8 way r len).toNat]? with
        | none => simp
        | some x =>
         simp only
         generalize hb : decide ((x.kids.length : Int) > 2 + n) = bb
         cases bb
         ·simp
         ·have := of_decide_eq_true hb
          simp only [cond_true]
          refine ⟨fun e => by omega, fun e => by omega, fun e => by omega, fun e => by omega, fun e => by omega, fun _ => ⟨trivial, by omega, x, rfl, this⟩, fun e => by omega, by omega, fun e => by omega⟩
      ·split
       ·simp_all
       ·simp
theorem aW0 {t : Tm} (h : shT t) (hk : t.kind = 4 ∨ t.kind = 5 ∨ t.kind = 10) : ∃ x y, t.kids[0]? = some x ∧ t.kids[1]? = some y := by
 obtain ⟨k, n, r, ks, cs⟩ := t
 have := h.1
 simp only [Tm.kind, Tm.kids] at hk ⊢
 have hl : ks.length = 2 := by rcases hk with rfl | rfl | rfl <;> simp [y7] at this <;> omega
 exact ⟨ks[0], ks[1], by simp [hl], by simp [hl]⟩
theorem aN7 {t : Tm} (h : shT t) (hk : t.kind = 3 ∨ t.kind = 9 ∨ t.kind = 11) : ∃ x, t.kids[0]? = some x := by
 obtain ⟨k, n, r, ks, cs⟩ := t
 have := h.1
 simp only [Tm.kind, Tm.kids] at hk ⊢
 have hl : ks.length = 1 := by rcases hk with rfl | rfl | rfl <;> simp [y7] at this <;> omega
 exact ⟨ks[0], by simp [hl]⟩
theorem bM9 {t : Tm} (h : shT t) (hk : t.kind = 12) : ∃ x y, t.kids[0]? = some x ∧ t.kids[1]? = some y := by
 obtain ⟨k, n, r, ks, cs⟩ := t
 have := h.1
 simp only [Tm.kind, Tm.kids] at hk ⊢
 have hl : 2 ≤ ks.length := by subst hk; simp [y7, J0] at this; omega
 exact ⟨ks[0], ks[1], List.getElem?_eq_getElem _, List.getElem?_eq_getElem _⟩
end
section
variable {G : List (Nat × TypeId × Pu)}
theorem aK7 {P : Program} (t : Tm) : ∀ m, VImp P (.pu (tmc m t)) (.pu (tmc 0 t)) := fun m => (A0 (Nat.zero_le m) t).imp
theorem bw4 {ts : List KT} {t0 : Tm} {p : List Nat} (hs : shT t0) (hok : okP t0 p) (hN : a8 t0 < 2^28) (hk : y6 ts t0 p = 1) : HCall Tryz.prog G 152 [.pu (G7 p (l5 t0 p)), .ptr 831 [] 36] [(831, .var 36 (fV 155))] [] (.pu (tmc 0 (r5 ts t0 p 1))) [] [] := by
 obtain ⟨h4, f, hf, hf3⟩ := (E3 hk).1 rfl
 have hw := H3 (p := p) hs
 obtain ⟨x, y, hx, hy⟩ := aW0 hw (.inl h4)
 obtain ⟨b, hb⟩ := aN7 (S6 hw hf) (.inl hf3)
 have hsz := t5 (t := t0) (p := p)
 have e : r5 ts t0 p 1 = I0 t0 p (o5 [y] 0 b) := by simp [r5, bj0, hf, hy, hb]
 rw [e];exact bD0 _ (by kernel_rfl) t0 p hok hN _ ((bY4 (d0 t0 p) f y b hf hy hb (by omega)).at (aK7 _))
theorem bw3 {ts : List KT} {t0 : Tm} {p : List Nat} (hs : shT t0) (hok : okP t0 p) (hN : a8 t0 < 2^28) (hk : y6 ts t0 p = 2) : HCall Tryz.prog G 152 [.pu (G7 p (l5 t0 p)), .ptr 832 [] 36] [(832, .var 36 (fV 157))] [] (.pu (tmc 0 (r5 ts t0 p 2))) [] [] := by
 have h5 := (E3 hk).2.1 rfl
 have hw := H3 (p := p) hs
 obtain ⟨x, y, hx, hy⟩ := aW0 hw (.inr (.inl h5))
 have hsz := t5 (t := t0) (p := p)
 have e : r5 ts t0 p 2 = I0 t0 p (o5 [x] 0 y) := by simp [r5, at3, hx, hy]
 rw [e];exact bC9 _ (by kernel_rfl) t0 p hok hN _ ((bY2 (d0 t0 p) x y hx hy (by omega)).at (aK7 _))
theorem bw2 (a b : Pu) {ts : List KT} (hts : ∀ x ∈ ts, x.1.length = 32) {t0 : Tm} {p : List Nat} (hok : okP t0 p) (hN : a8 t0 < 2^28) (hk : y6 ts t0 p = 3) : HCall Tryz.prog G 152 [.pu (G7 p (l5 t0 p)), .ptr 833 [] 36] (ruO a b ts) [] (.pu (tmc 0 (r5 ts t0 p 3))) [] [] := by
 obtain ⟨_, h6⟩ := (E3 hk).2.2.1 rfl
 obtain ⟨y, hy⟩ := Option.isSome_iff_exists.1 h6
 have e : r5 ts t0 p 3 = I0 t0 p y := by simp [r5, hy]
 rw [e];exact bC8 a b ts hts t0 p hok hN y hy
theorem bw1 {ts : List KT} {t0 : Tm} {p : List Nat} (hs : shT t0) (hok : okP t0 p) (hN : a8 t0 < 2^28) (hk : y6 ts t0 p = 4) : HCall Tryz.prog G 152 [.pu (G7 p (l5 t0 p)), .ptr 834 [] 36] [(834, .var 36 (fV 159))] [] (.pu (tmc 0 (r5 ts t0 p 4))) [] [] := by
 have h10 := (E3 hk).2.2.2.1 rfl
 have hw := H3 (p := p) hs
 obtain ⟨x, y, hx, hy⟩ := aW0 hw (.inr (.inr h10))
 have e : r5 ts t0 p 4 = I0 t0 p (as4 (d0 t0 p).num x.num y.num) := by simp [r5, bd4, hx, hy]
 rw [e];refine bC7 _ (by kernel_rfl) t0 p hok hN _ ?_
 generalize d0 t0 p = w at hx hy ⊢
 obtain ⟨k, n, r, ks, cs⟩ := w
 simp only [H5] at hx hy
 obtain ⟨hx1, hx2⟩ := List.getElem?_eq_some_iff.1 hx
 obtain ⟨hy1, hy2⟩ := List.getElem?_eq_some_iff.1 hy
 subst hx2 hy2;exact (ce6 k n r ks cs (by omega)).at (aK7 _)
theorem bw0 {ts : List KT} {t0 : Tm} {p : List Nat} (hs : shT t0) (hok : okP t0 p) (hN : a8 t0 < 2^28) (hk : y6 ts t0 p = 5) : HCall Tryz.prog G 152 [.pu (G7 p (l5 t0 p)), .ptr 835 [] 36] [(835, .var 36 (fV 160))] [] (.pu (tmc 0 (r5 ts t0 p 5))) [] [] := by
 have h9 := (E3 hk).2.2.2.2.1 rfl
 have hw := H3 (p := p) hs
 obtain ⟨x, hx⟩ := aN7 hw (.inr (.inl h9))
 have hsz := t5 (t := t0) (p := p)
 have e : r5 ts t0 p 5 = I0 t0 p (u7 (d0 t0 p).cases x) := by simp [r5, be4, hx]
 rw [e];refine bC6 _ (by kernel_rfl) t0 p hok hN _ ?_
 generalize d0 t0 p = w at hx hsz ⊢
 obtain ⟨k, n, r, ks, cs⟩ := w
 simp only [H5] at hx
 obtain ⟨hx1, hx2⟩ := List.getElem?_eq_some_iff.1 hx
 subst hx2;exact (aR2 k n r ks cs (by omega) (by omega)).at (aK7 _)
theorem bv9 {ts : List KT} {t0 : Tm} {p : List Nat} (hs : shT t0) (hok : okP t0 p) (hN : a8 t0 < 2^28) (hk : y6 ts t0 p = 6) : FCall Tryz.prog G 161 [.pu (G7 p (l5 t0 p))] (.pu (tmc 0 (r5 ts t0 p 6))) := by
 obtain ⟨h11, hn0, x, hx1, hx2⟩ := (E3 hk).2.2.2.2.2.1 rfl
 have hw := H3 (p := p) hs
 obtain ⟨v, hv⟩ := aN7 hw (.inr (.inr h11))
 have hlt := af5 (l5 t0 p) (d0 t0 p).ref p.length
 have hnum : 0 ≤ (d0 t0 p).num ∧ (d0 t0 p).num ≤ 7 := by
  generalize d0 t0 p = w at hw h11 ⊢
  obtain ⟨k, n, r, ks, cs⟩ := w
  exact hw.2.1 h11
 obtain ⟨nn, hnn⟩ : ∃ nn, nn = (p8 (l5 t0 p) (d0 t0 p).ref p.length).toNat := ⟨_, rfl⟩
 have hnp : nn < p.length := by omega
 rw [← hnn, B3 hok (by omega)] at hx1
 simp only [Option.some.injEq] at hx1
 obtain ⟨b, hb⟩ : ∃ b, (d0 t0 (p.take nn)).kids[(2 + (d0 t0 p).num).toNat]? = some b := by
  rw [hx1];exact ⟨_, List.getElem?_eq_getElem (by omega)⟩
 have e : r5 ts t0 p 6 = v8 (l5 t0 p) p 0 nn (o5 [v, I4 t0 p nn] 0 b) := by
  simp only [r5, doM, ← hnn, hv, hb]; rfl
 rw [e];exact do_c t0 p hok hN nn v b (by omega) hnp ⟨hnum.1, by omega⟩ hv hb
theorem bv8 {ts : List KT} {t0 : Tm} {p : List Nat} (hs : shT t0) (hok : okP t0 p) (hN : a8 t0 < 2^28) (hk : y6 ts t0 p = 7) : HCall Tryz.prog G 152 [.pu (G7 p (l5 t0 p)), .ptr 836 [] 36] [(836, .var 36 (fV 162))] [] (.pu (tmc 0 (r5 ts t0 p 7))) [] [] := by
 have h12 := (E3 hk).2.2.2.2.2.2.1 rfl
 have hw := H3 (p := p) hs
 obtain ⟨x, y, hx, hy⟩ := bM9 hw h12
 have hsz := t5 (t := t0) (p := p)
 have e : r5 ts t0 p 7 = I0 t0 p (o5 [x] 0 y) := by simp [r5, at3, hx, hy]
 rw [e];exact bC5 _ (by kernel_rfl) t0 p hok hN _ ((bY1 (d0 t0 p) x y hx hy (by omega)).at (aK7 _))
theorem bT1 (op a b : Int) : shT (as4 op a b) := cd5 _
theorem bI0 {s : List Int} {y : Tm} : ∀ {ts : List KT}, (∀ x ∈ ts, shT x.2) → M0 s ts = some y → shT y
 | [], _, h => by cases h
 | x :: ts, h, hy => by
  simp only [M0] at hy
  split at hy
  ·simp at hy; rw [← hy]; exact h x (by simp)
  ·exact bI0 (fun z hz => h z (by simp [hz])) hy
theorem bH0 {s : List Int} {y : Tm} {B : Nat} : ∀ {ts : List KT}, (∀ x ∈ ts, a8 x.2 ≤ B) → M0 s ts = some y → a8 y ≤ B
 | [], _, h => by cases h
 | x :: ts, h, hy => by
  simp only [M0] at hy
  split at hy
  ·simp at hy; rw [← hy]; exact h x (by simp)
  ·exact bH0 (fun z hz => h z (by simp [hz])) hy
theorem aX4 {ts : List KT} (hb : ∀ x ∈ ts, shT x.2) {t0 : Tm} {p : List Nat} (hs : shT t0) (hok : okP t0 p) (k : Int) : shT (r5 ts t0 p k) := by
 have hw := H3 (p := p) hs
 have here : ∀ y, shT y → shT (I0 t0 p y) := fun y hy => aC9 hok hs 0 _ _ (Nat.le_refl _) hy
 have hput : ∀ x y, shT x → shT y → shT (o5 [x] 0 y) := fun x y hx hy => aH0 _ (fun v hv => by simp at hv; rw [hv]; exact hx) _ _ hy
 have hlet : shT (at3 (d0 t0 p)) := by
  unfold at3
  split
  ·rename_i x b h1 h2; exact hput _ _ (S6 hw h1) (S6 hw h2)
  ·exact M6
 unfold r5
 split
 ·refine here _ ?_
  unfold bj0
  split
  ·rename_i f x h1 h2
   split
   ·rename_i b h3; exact hput _ _ (S6 hw h2) (S6 (S6 hw h1) h3)
   ·exact M6
  ·exact M6
 split
 ·exact here _ hlet
 split
 ·refine here _ ?_
  cases hy : M0 (d0 t0 p).ref ts with
  | none => exact M6
  | some y => exact bI0 hb hy
 split
 ·refine here _ ?_
  unfold bd4
  split
  ·exact bT1 _ _ _
  ·exact M6
 split
 ·refine here _ ?_
  unfold be4
  split
  ·rename_i v hv
   have hv' := S6 hw hv
   generalize d0 t0 p = w at hw
   obtain ⟨k, n, r, ks, cs⟩ := w
   exact bb0 _ _ hw.2.2.2 hv'
  ·exact M6
 split
 ·unfold doM
  split
  ·rename_i a b h1 h2
   have hlt := af5 (l5 t0 p) (d0 t0 p).ref p.length
   refine aC9 hok hs 0 _ _ (by omega) (aH0 _ (fun v hv => ?_) _ _ (S6 (H3 hs) h2))
   simp at hv
   rcases hv with rfl | rfl
   ·exact S6 hw h1
   ·refine ⟨by simp [y7], fun e => (by cases e), ⟨aC9 hok hs _ _ _ (Nat.le_refl _) cd3, trivial⟩, trivial⟩
  ·exact M6
 ·exact here _ hlet
theorem au3 {ts : List KT} (hb : ∀ x ∈ ts, a8 x.2 ≤ 300) {t0 : Tm} {p : List Nat} (hok : okP t0 p) (hN : a8 t0 ≤ 3000) (k : Int) : a8 (r5 ts t0 p k) ≤ 9012000 := by
 have hw := t5 (t := t0) (p := p)
 have hn1 : a8 j7 = 1 := by simp [j7, a8, d7, f6]
 have here : ∀ y, a8 y ≤ 9009000 → a8 (I0 t0 p y) ≤ 9012000 := fun y hy => by
  have := ac7 hok 0 p.length y (Nat.le_refl _)
  unfold I0; omega
 have hput : ∀ (vs : List Tm) y, (∀ v ∈ vs, a8 v ≤ 3002) → a8 y ≤ 3000 → a8 (o5 vs 0 y) ≤ 9009000 := fun vs y hv hy => by
  have h1 := ac1 vs 3002 hv y 0
  have h2 : a8 y * (1 + 3002) ≤ 9009000 := by omega
  omega
 have hlet : a8 (at3 (d0 t0 p)) ≤ 9009000 := by
  unfold at3
  split
  ·rename_i x b h1 h2
   have := o4 h1; have := o4 h2
   exact hput _ _ (fun v hv => by simp at hv; subst hv; omega) (by omega)
  ·omega
 unfold r5
 split
 ·refine here _ ?_
  unfold bj0
  split
  ·rename_i f x h1 h2
   split
   ·rename_i b h3
    have := o4 h1; have := o4 h2; have := o4 h3
    exact hput _ _ (fun v hv => by simp at hv; subst hv; omega) (by omega)
   ·omega
  ·omega
 split
 ·exact here _ hlet
 split
 ·refine here _ ?_
  cases hy : M0 (d0 t0 p).ref ts with
  | none => simp only [Option.getD]; omega
  | some y => have := bH0 hb hy; simp only [Option.getD]; omega
 split
 ·refine here _ ?_
  unfold bd4
  split
  ·simp [as4, aV8, a8, d7, f6]
  ·omega
 split
 ·refine here _ ?_
  unfold be4
  split
  ·rename_i v hv
   have h1 := o4 hv
   have h2 := aK4 (d0 t0 p).cases v
   have h3 : 1 + f6 (d0 t0 p).cases ≤ 3000 := by
    generalize d0 t0 p = w at hw
    obtain ⟨k, n, r, ks, cs⟩ := w
    simp only [a8] at hw
    simp only [Tm.cases]; omega
   have h4 : (1 + f6 (d0 t0 p).cases) * (1 + a8 v) ≤ 9009000 := by
    have := Nat.mul_le_mul h3 (show 1 + a8 v ≤ 3001 by omega)
    omega
   omega
  ·omega
 split
 ·unfold doM
  split
  ·rename_i a b h1 h2
   have hlt := af5 (l5 t0 p) (d0 t0 p).ref p.length
   have k1 := o4 h1
   have k2 := o4 h2
   have k3 := t5 (t := t0) (p := p.take (p8 (l5 t0 p) (d0 t0 p).ref p.length).toNat)
   have k4 := ac7 hok (p8 (l5 t0 p) (d0 t0 p).ref p.length).toNat p.length V2 (Nat.le_refl _)
   have hsv : a8 V2 = 1 := by simp [V2, a8, d7, f6]
   have k5 := hput [a, I4 t0 p (p8 (l5 t0 p) (d0 t0 p).ref p.length).toNat] b (fun v hv => by
    simp at hv
    rcases hv with rfl | rfl
    ·omega
    ·simp only [I4, a8, d7, f6]; omega) (by omega)
   have k6 := ac7 hok 0 (p8 (l5 t0 p) (d0 t0 p).ref p.length).toNat (o5 [a, I4 t0 p (p8 (l5 t0 p) (d0 t0 p).ref p.length).toNat] 0 b) (by omega)
   omega
  ·omega
 ·exact here _ hlet
end
section
variable {G : List (Nat × TypeId × Pu)}
theorem aV2 (t : Tm) (hN : a8 t < 2^40) : FCall Tryz.prog G 113 [.pu (tmc 0 t)] (bv (n6 t 60 8 == 0)) := by
 refine Fq 6 Tryz.func113 ?_;intro w0 M ρ0 D0
 refine Y85 ?_;refine Y4 ?_;refine Dq (aF0 t hN 60 8) ?_;refine yI ?_;refine Y2 ?_;refine Rq ?_;exact ToPu.imp (by repeat constructor)
structure EndM where
 kind : Int
 steps : Int
 term : Tm
 ref : List Int
 num : Int
def bo9 (e : EndM) : Pu := .agg 65 [.leaf (.int .i64 e.kind), .leaf (.int .i64 e.steps), tmc 0 e.term, l4 e.ref, .leaf (.int .i64 e.num)]
instance (e : EndM) : TyV Tryz.prog 65 (.pu (bo9 e)) := inferInstanceAs (TyV Tryz.prog 65 (.pu (.agg _ _)))
def endZ : EndM := ⟨0, 0, j7, Z32, 0⟩
def T9 (ts : List KT) (steps : Nat) (t : Tm) : Option EndM :=
 if D3 t then some ⟨0, steps, t, Z32, 0⟩
 else if y6 ts t (c9 t) = 9 then some ⟨9, steps, ((d0 t (c9 t)).kids[0]?).getD j7, (d0 t (c9 t)).ref, (d0 t (c9 t)).num⟩
 else if y6 ts t (c9 t) = 8 then some ⟨8, steps, j7, Z32, 0⟩ else none
def n5 (ts : List KT) (t : Tm) : Tm := r5 ts t (c9 t) (y6 ts t (c9 t))
def u4 (ts : List KT) : Nat → Nat → Tm → EndM × Int
 | 0, steps, t => match T9 ts steps t with
  | some e => (e, 0)
  | none => (⟨10, steps, j7, Z32, 0⟩, 0)
 | left + 1, steps, t => match T9 ts steps t with
  | some e => (e, 0)
  | none => if (m2 3000 200 1 0 (n5 ts t)).1 then (endZ, 12) else u4 ts left (steps + 1) (n5 ts t)
theorem ac0 {ts : List KT} {left steps : Nat} {t : Tm} {e : EndM} (h : T9 ts steps t = some e) : u4 ts left steps t = (e, 0) := by
 cases left <;> simp only [u4, h]
abbrev ce5 (x : EndM × Int) : PV := .tup [.pu (bo9 x.1), iv .i64 x.2]
set_option maxHeartbeats 4000000 in
theorem ca9 (a b : Pu) (ts : List KT) (hnd : (ts.map (·.1)).Nodup) (hl : ts.length < 2^40) (hbs : ∀ x ∈ ts, shT x.2) (hbz : ∀ x ∈ ts, a8 x.2 ≤ 300) (t0 : Tm) (hs0 : shT t0) (hz0 : a8 t0 ≤ 3000) (fuel : Nat) (hf : fuel ≤ 2000) :
  FCall Tryz.prog G 112 [.pu (wdP a b ts), .pu (tmc 0 t0), iv .i64 fuel] (ce5 (u4 ts fuel 0 t0)) := by
 refine Fq 73 Tryz.func112 ?_;intro w0 M ρ0 D0
 refine Tri.fact (i := 0) rfl (fun D w x h => aZ2 h) (fun hts => ?_);refine Y89 ?_;refine b9 SS 6 ?_;refine yB ?_;refine b8 [3, 4, 6] ?_;refine Y4 ?_;refine B7 (aK0 a b ts hnd hl) ?_;refine yA ?_;refine b8 [822, 820, 823, 831, 832, 833, 834, 835, 836] ?_;refine Y11 ?_;refine Y34 ?_
 refine Tri.block (Tri.loopW (σ := {q : Nat × Tm // q.1 ≤ fuel ∧ u4 ts fuel 0 t0 = u4 ts (fuel - q.1) q.1 q.2 ∧ shT q.2 ∧ a8 q.2 ≤ 3000}) (fun i => ⟨[(2, iv .i64 fuel), (4, .ptr 4 [] 32), (6, .ptr 6 [] 65), (8, .ptr 820 [] 181), (17, iv .i64 (fuel + 1)), (18, iv .i64 i.1.1)], [(4, .var 32 (.pu (tmc 0 i.1.2))), (6, .var 65 (.agg 65 [iv .i64 0, iv .i64 0, .agg 32 [iv .i64 0, iv .i64 0, .pu (l4 Z32), .nilc, .nilc], .pu (l4 Z32), iv .i64 0]))] ++ ruO a b ts⟩) (fun i => fuel - i.1.1) ⟨(0, t0), Nat.zero_le _, rfl, hs0, hz0⟩ ?_ ?_ (fun i => ?_))
 ·exact zk4
 ·exact zk4
 refine Y41 ?_;refine Cq ?_ ?_
 ·intro h0
  obtain ⟨⟨st, t⟩, hst, hrn, hsh, hsz⟩ := i
  dsimp only at hst hrn hsh hsz ⊢
  have hok := F7 hsh
  have hN : a8 t < 2^28 := by omega
  have hwl := F3 hok
  have hat := aY1 (G := G) (c9 t) (l5 t (c9 t)) (by omega)
  have hwg := B3 hok (Nat.le_refl (c9 t).length)
  rw [List.take_length, List.getElem?_eq_getElem (by omega)] at hwg
  simp only [Option.some.injEq] at hwg
  rw [hwg] at hat
  have hwsh := H3 (p := c9 t) hsh
  have hkc := bn5 (G := G) a b ts hts t (c9 t) hok hN (by generalize d0 t (c9 t) = w at hwsh; obtain ⟨k, n, r, ks, cs⟩ := w; exact hwsh.1) (by generalize d0 t (c9 t) = w at hwsh; obtain ⟨k, n, r, ks, cs⟩ := w; exact hwsh.2.1)
  have hki := E3 (show z7 ts (l5 t (c9 t)) (c9 t).length (d0 t (c9 t)) = y6 ts t (c9 t) from rfl)
  generalize hkk : y6 ts t (c9 t) = kk at hkc hki
  refine Y20 ?_;refine Y95 ?_;refine Y4 ?_;refine Dq (ad7 _ t (Nat.le_refl _) (by omega)) ?_;refine Y0 ?_;refine Cq ?_ ?_
  ·intro h1
   have hfin : u4 ts fuel 0 t0 = (⟨0, st, t, Z32, 0⟩, 0) := by rw [hrn]; exact ac0 (by simp only [T9, h1, if_true])
   refine Y1 ?_;refine yL ?_;refine yP ?_;refine Y56 ?_;exact Tri.ret ⟨.inr rfl, q8 rfl j6 ((by rw [hfin]; exact ToPu.imp (by repeat constructor))) b4 ((by rw [hfin]; exact VImp.refl _))⟩
  ·intro h1
   have hv : ¬ D3 t = true := by rw [h1]; decide
   refine Y72 ?_;refine Dq (aW6 t hsh (by omega)) ?_;refine b9 SS 10 ?_;refine yS ?_;refine b8 [10] ?_;refine Y1 ?_;refine yL ?_;refine b5 (p6 (fun _ => hkc)) ?_;refine Y8 ?_;refine Y4 ?_;refine Dq hat ?_;refine b9 SS 12 ?_;refine yS ?_;refine b8 [12] ?_;refine Y84 ?_;refine Y76 ?_;refine Cq ?_ ?_
   ·intro h2
    have h9 : kk = 9 := by simpa using h2
    obtain ⟨x, hx⟩ := aN7 hwsh (.inr (.inr (hki.2.2.2.2.2.2.2.2 h9)))
    have hfin : u4 ts fuel 0 t0 = (⟨9, st, x, (d0 t (c9 t)).ref, (d0 t (c9 t)).num⟩, 0) := by rw [hrn]; exact ac0 (by simp only [T9, if_neg hv, hkk, h9, if_true, hx, Option.getD])
    generalize d0 t (c9 t) = w at hx hfin ⊢
    obtain ⟨k, n, r, ks, cs⟩ := w
    simp only [H5, av9, aw6] at hx hfin
    have hxg : (l8 0 ks)[0]? = some (tmc 0 x) := by simp [l6, hx]
    refine Y50 ?_;refine Xq hxg ?_;refine yL ?_;refine Y70 ?_;refine yP ?_;refine yS ?_;refine yB ?_;refine Y42 ?_;exact Tri.ret ⟨.inr rfl, q8 rfl j6 ((by rw [hfin]; exact ToPu.imp (by repeat constructor))) b4 ((by rw [hfin]; exact VImp.refl _))⟩
   ·intro h2
    have h9 : ¬ kk = 9 := by simpa using h2
    refine Y76 ?_;refine Cq ?_ ?_
    ·intro h3
     have h8 : kk = 8 := by simpa using h3
     have hfin : u4 ts fuel 0 t0 = (⟨8, st, j7, Z32, 0⟩, 0) := by rw [hrn]; exact ac0 (by simp only [T9, if_neg hv, hkk, h8]; rfl)
     refine Y1 ?_;refine yP ?_;refine Y56 ?_;exact Tri.ret ⟨.inr rfl, q8 rfl j6 ((by rw [hfin]; exact ToPu.imp (by unfold j7; repeat constructor))) b4 ((by rw [hfin]; exact VImp.refl _))⟩
    ·intro h3
     have h8 : ¬ kk = 8 := by simpa using h3
     have hre : T9 ts st t = none := by simp only [T9, if_neg hv, hkk, if_neg h9, if_neg h8]
     refine Y62 ?_;refine Y2 ?_;refine Cq ?_ ?_
     ·intro h4
      have hsf : st = fuel := by simp at h4; omega
      have hfin : u4 ts fuel 0 t0 = (⟨10, st, j7, Z32, 0⟩, 0) := by rw [hrn, show fuel - st = 0 by omega]; simp only [u4, hre]
      refine Y1 ?_;refine yP ?_;refine Y56 ?_;exact Tri.ret ⟨.inr rfl, q8 rfl j6 ((by rw [hfin]; exact ToPu.imp (by unfold j7; repeat constructor))) b4 ((by rw [hfin]; exact VImp.refl _))⟩
     ·intro h4
      have hsf : st < fuel := by simp at h4; omega
      obtain ⟨lf, hlf⟩ : ∃ lf, fuel - st = lf + 1 := ⟨fuel - st - 1, by omega⟩
      rw [hlf] at hrn
      simp only [u4, hre] at hrn
      have hk19 := hki.2.2.2.2.2.2.2.1
      clear hki
      have hnx : n5 ts t = r5 ts t (c9 t) kk := by unfold n5; rw [hkk]
      have hys := aX4 hbs hsh hok kk
      have hyz := au3 hbz hok hsz kk
      rw [← hnx] at hys hyz
      obtain rfl | rfl | rfl | rfl | rfl | rfl | rfl : kk = 1 ∨ kk = 2 ∨ kk = 3 ∨ kk = 4 ∨ kk = 5 ∨ kk = 6 ∨ kk = 7 := by omega
      all_goals
       refine Tri.skip ?_;refine Y17 ?_;refine yY ?_;refine yF ?_;refine b5 (an0 SS) ?_;refine yL ?_;refine Y8 ?_;refine Y1 ?_;refine yL ?_
       first | refine b5 (p6 (fun _ => bw4 hsh hok hN hkk)) ?_ | refine b5 (p6 (fun _ => bw3 hsh hok hN hkk)) ?_ | refine b5 (p6 (fun _ => bw2 a b hts hok hN hkk)) ?_ | refine b5 (p6 (fun _ => bw1 hsh hok hN hkk)) ?_ | refine b5 (p6 (fun _ => bw0 hsh hok hN hkk)) ?_ | refine b5 (p6 (fun _ => bv9 hsh hok hN hkk)) ?_ | refine b5 (p6 (fun _ => bv8 hsh hok hN hkk)) ?_
       refine Y16 ?_;rw [← hnx];refine Y51 ?_;refine p7 SS 91 ?_;refine yL ?_;refine B7 (cj6 _ (n5 ts t) (Nat.le_refl _) (by omega) 1 0 (by omega) (by omega)) ?_;refine b8 [91] ?_;refine tQ ?_;refine Cq ?_ ?_
       ·intro h5
        have hfin : u4 ts fuel 0 t0 = (endZ, 12) := by rw [hrn, if_pos h5]
        refine ay4 ?_;exact Tri.ret ⟨.inr rfl, q8 rfl j6 ((by rw [hfin]; exact ToPu.imp (by unfold endZ j7; repeat constructor))) b4 ((by rw [hfin]; exact VImp.refl _))⟩
       ·intro h5
        have hnext : u4 ts fuel 0 t0 = u4 ts (fuel - (st + 1)) (st + 1) (n5 ts t) := by rw [hrn, if_neg (by rw [h5]; decide), show fuel - (st + 1) = lf by omega]
        have hls := Q5 (mn := 3000) (md := 200) (t := n5 ts t) (d := 1) (c := 0) (by omega) h5
        have hszy : a8 (n5 ts t) ≤ 3000 := by omega
        have hshy := hys
        refine Y66 ?_
        refine ⟨⟨(st + 1, n5 ts t), by show st + 1 ≤ fuel; omega, hnext, hshy, hszy⟩, by show fuel - (st + 1) < fuel - st; omega, i9 ?_ ?_⟩
        ·exact zE
        ·exact zH
 ·intro h0;exfalso
  have := i.2.1
  simp at h0
  omega
end
section
variable {G : List (Nat × TypeId × Pu)}
theorem aj2 {α : Type} {f : α → Int} : ∀ {l : List α}, m6 f l = 0 → ∀ x ∈ l, f x = 0
 | [], _, x, h => by cases h
 | a :: l, h, x, hx => by
  simp only [m6] at h
  split at h
  ·rename_i h0
   rcases List.mem_cons.1 hx with rfl | hx
   ·exact h0
   ·exact aj2 h x hx
  ·contradiction
theorem w8 {ts : List KT} {t : Tm} (h : d3 ts t = 0) : ts.length ≤ 40 ∧ (∀ x ∈ ts, n6 x.2 0 0 = 0) ∧ (ts.map (·.1)).Nodup ∧ n6 t 0 0 = 0 := by
 unfold d3 at h
 split at h
 ·cases h
 ·rename_i h1
  obtain ⟨h2, h3⟩ := B1 h
  split at h3
  ·cases h3
  ·rename_i h4
   exact ⟨by simp at h1; omega, aj2 h2, by simpa [bh9] using h4, h3⟩
theorem bc4 {ts : List KT} {steps : Nat} {t : Tm} {e : EndM} (hs : shT t) (h : T9 ts steps t = some e) : shT e.term ∧ a8 e.term ≤ a8 t := by
 have hn1 : a8 j7 = 1 := by simp [j7, a8, d7, f6]
 have hp := m8 t
 unfold T9 at h
 split at h
 ·simp at h; subst h; exact ⟨hs, Nat.le_refl _⟩
 ·split at h
  ·simp at h; subst h
   simp only
   cases hk : (d0 t (c9 t)).kids[0]? with
   | none => exact ⟨M6, by simp only [Option.getD]; omega⟩
   | some x =>
    have h1 := o4 hk
    have h2 := t5 (t := t) (p := c9 t)
    exact ⟨S6 (H3 hs) hk, by simp only [Option.getD]; omega⟩
  ·split at h
   ·simp at h; subst h; exact ⟨M6, by simp only; omega⟩
   ·cases h
theorem aD3 {ts : List KT} (hbs : ∀ x ∈ ts, shT x.2) : ∀ (left steps : Nat) (t : Tm), shT t → a8 t ≤ 3000 → shT (u4 ts left steps t).1.term ∧ a8 (u4 ts left steps t).1.term ≤ 3000
 | 0, steps, t, hs, hz => by
  have hn1 : a8 j7 = 1 := by simp [j7, a8, d7, f6]
  simp only [u4]
  split
  ·rename_i e he
   have := bc4 hs he
   exact ⟨this.1, Nat.le_trans this.2 hz⟩
  ·exact ⟨M6, by simp only; omega⟩
 | left + 1, steps, t, hs, hz => by
  have hn1 : a8 j7 = 1 := by simp [j7, a8, d7, f6]
  simp only [u4]
  split
  ·rename_i e he
   have := bc4 hs he
   exact ⟨this.1, Nat.le_trans this.2 hz⟩
  ·split
   ·exact ⟨M6, by simp only [endZ]; omega⟩
   ·rename_i hg
    have hls := Q5 (mn := 3000) (md := 200) (t := n5 ts t) (d := 1) (c := 0) (by omega) (by simpa using hg)
    exact aD3 hbs left (steps + 1) (n5 ts t) (aX4 hbs hs (F7 hs) _) (by omega)
def F9 (ts : List KT) (t : Tm) (fuel : Int) : EndM × Int :=
 if d3 ts t = 0 then
  if fuel < 0 ∨ 2000 < fuel then (endZ, 3)
  else if (u4 ts fuel.toNat 0 t).2 = 0 then
   if (u4 ts fuel.toNat 0 t).1.kind ≠ 0 ∧ (u4 ts fuel.toNat 0 t).1.kind ≠ 9 then ((u4 ts fuel.toNat 0 t).1, 0)
   else if n6 (u4 ts fuel.toNat 0 t).1.term 60 8 = 0 then ((u4 ts fuel.toNat 0 t).1, 0) else (endZ, 11)
  else (endZ, (u4 ts fuel.toNat 0 t).2)
 else (endZ, d3 ts t)
set_option maxHeartbeats 1000000 in
theorem bI6 (a b : Pu) (ts : List KT) (t : Tm) (fuel : Int) (hts : ∀ x ∈ ts, a8 x.2 < 2^40) (hN : a8 t < 2^40) : FCall Tryz.prog G 35 [.pu (wdP a b ts), .pu (tmc 0 t), iv .i64 fuel] (ce5 (F9 ts t fuel)) := by
 refine Fq 58 Tryz.func35 ?_;intro w0 M ρ0 D0
 refine Y89 ?_;refine b9 SS 6 ?_;refine yB ?_;refine b8 [3, 4, 6] ?_;refine Y22 ?_;refine Dq (G6 a b ts t hts hN) ?_;refine Y52 ?_;refine Cq ?_ ?_
 ·intro h0
  have h0' : ¬ d3 ts t = 0 := by simpa using h0
  have hfin : F9 ts t fuel = (endZ, d3 ts t) := by simp only [F9, if_neg h0']
  refine Y51 ?_;refine yM ?_;refine yS ?_;refine Y2 ?_;exact Tri.ret ⟨.inr rfl, q8 rfl j6 ((by rw [hfin]; exact ToPu.imp (by unfold endZ j7; repeat constructor))) b4 ((by rw [hfin]; exact VImp.refl _))⟩
 ·intro h0
  have h0' : d3 ts t = 0 := by simpa using h0
  obtain ⟨k1, k2, k3, k4⟩ := w8 h0'
  obtain ⟨k5, k6⟩ := r7 k4
  refine Tri.skip ?_;refine Y58 ?_;refine Y92 ?_;refine Cq ?_ ?_
  ·intro h1
   have h1' : fuel < 0 ∨ 2000 < fuel := by simpa using h1
   have hfin : F9 ts t fuel = (endZ, 3) := by simp only [F9, if_pos h0', if_pos h1']
   refine ay4 ?_;exact Tri.ret ⟨.inr rfl, q8 rfl j6 ((by rw [hfin]; exact ToPu.imp (by unfold endZ j7; repeat constructor))) b4 ((by rw [hfin]; exact VImp.refl _))⟩
  ·intro h1
   have h1' : ¬ (fuel < 0 ∨ 2000 < fuel) := by simp at h1; omega
   obtain ⟨fl, hfl⟩ : ∃ fl : Nat, fuel = fl := ⟨fuel.toNat, by omega⟩
   subst hfl
   have hran := ca9 (G := G) a b ts k3 (by omega) (fun x hx => (r7 (k2 x hx)).1) (fun x hx => (r7 (k2 x hx)).2) t k5 (by omega) fl (by omega)
   have hinv := aD3 (ts := ts) (fun x hx => (r7 (k2 x hx)).1) fl 0 t k5 (by omega)
   have hrun : F9 ts t fl = if (u4 ts fl 0 t).2 = 0 then (if (u4 ts fl 0 t).1.kind ≠ 0 ∧ (u4 ts fl 0 t).1.kind ≠ 9 then ((u4 ts fl 0 t).1, 0) else if n6 (u4 ts fl 0 t).1.term 60 8 = 0 then ((u4 ts fl 0 t).1, 0) else (endZ, 11)) else (endZ, (u4 ts fl 0 t).2) := by simp only [F9, if_pos h0', if_neg h1', Int.toNat_natCast]
   generalize u4 ts fl 0 t = res at hran hinv hrun
   obtain ⟨⟨ek, es, et, er, en⟩, err⟩ := res
   simp only at hinv hrun
   refine Tri.skip ?_;refine Y22 ?_;refine yM ?_;refine Dq hran ?_;refine Y28 ?_;refine ay6 ?_;refine yA ?_;refine b8 [9] ?_;refine Y84 ?_;refine Y76 ?_;refine Cq ?_ ?_
   ·intro h2
    have h2' : ¬ err = 0 := by simpa using h2
    rw [if_neg h2'] at hrun
    refine Y51 ?_;refine yM ?_;refine yS ?_;refine Y2 ?_;exact Tri.ret ⟨.inr rfl, q8 rfl j6 ((by rw [hrun]; exact ToPu.imp (by unfold endZ j7; repeat constructor))) b4 ((by rw [hrun]; exact VImp.refl _))⟩
   ·intro h2
    have h2' : err = 0 := by simpa using h2
    rw [if_pos h2'] at hrun
    refine Y55 ?_;refine xI ?_;refine Y44 ?_;refine Cq ?_ ?_
    ·intro h3
     have h3' : ek ≠ 0 ∧ ek ≠ 9 := by simpa using h3
     rw [if_pos h3'] at hrun
     refine Y4 ?_;refine Y56 ?_;exact Tri.ret ⟨.inr rfl, q8 rfl j6 ((by rw [hrun]; exact VImp.refl _)) b4 ((by rw [hrun]; exact VImp.refl _))⟩
    ·intro h3
     have h3' : ¬ (ek ≠ 0 ∧ ek ≠ 9) := by simpa using h3
     rw [if_neg h3'] at hrun
     refine Y13 ?_;refine Dq (aV2 et (by omega)) ?_;refine yQ ?_;refine Y2 ?_;refine Cq ?_ ?_
     ·intro h4
      have h4' : ¬ n6 et 60 8 = 0 := by simpa using h4
      rw [if_neg h4'] at hrun
      refine ay4 ?_;exact Tri.ret ⟨.inr rfl, q8 rfl j6 ((by rw [hrun]; exact ToPu.imp (by unfold endZ j7; repeat constructor))) b4 ((by rw [hrun]; exact VImp.refl _))⟩
     ·intro h4
      have h4' : n6 et 60 8 = 0 := by simpa using h4
      rw [if_pos h4'] at hrun
      refine Tri.skip ?_;refine Y13 ?_;refine Dq ((bd7 et (by omega)).at (aK7 _)) ?_;refine Y83 ?_;refine Y4 ?_;refine Y56 ?_;exact Tri.ret ⟨.inr rfl, q8 rfl j6 ((by rw [hrun]; exact VImp.refl _)) b4 ((by rw [hrun]; exact VImp.refl _))⟩
end
section
variable {G : List (Nat × TypeId × Pu)}
def A7 (ts : List KT) (t : Tm) : Int × List Nat × Int :=
 if d3 ts t = 0 then (if D3 t then (0, [], 0) else (y6 ts t (c9 t), c9 t, 0)) else (0, [], d3 ts t)
abbrev cb2 (x : Int × List Nat × Int) : PV := .tup [iv .i64 x.1, .pu (.sl 0 3 (r0 x.2.1)), iv .i64 x.2.2]
theorem ao2 (a b : Pu) (ts : List KT) (t : Tm) (hts : ∀ x ∈ ts, a8 x.2 < 2^40) (hN : a8 t < 2^40) : FCall Tryz.prog G 18 [.pu (wdP a b ts), .pu (tmc 0 t)] (cb2 (A7 ts t)) := by
 refine Fq 25 Tryz.func18 ?_;intro w0 M ρ0 D0
 refine Tri.fact (i := 0) rfl (fun D w x h => aZ2 h) (fun hwd => ?_);refine Y73 ?_;refine yB ?_;refine yB ?_;refine b8 [2, 3] ?_;refine Y22 ?_;refine Dq (G6 a b ts t hts hN) ?_;refine Y52 ?_;refine Cq ?_ ?_
 ·intro h0
  have h0' : ¬ d3 ts t = 0 := by simpa using h0
  have hfin : A7 ts t = (0, [], d3 ts t) := by simp only [A7, if_neg h0']
  refine Y1 ?_;refine yB ?_;refine yB ?_;refine Y2 ?_;exact Tri.ret ⟨.inr rfl, ce4 rfl b4 ((by rw [hfin]; exact VImp.refl _)) b4 ((by rw [hfin]; exact ToPu.imp (by repeat constructor))) b4 ((by rw [hfin]; exact VImp.refl _))⟩
 ·intro h0
  have h0' : d3 ts t = 0 := by simpa using h0
  obtain ⟨k1, k2, k3, k4⟩ := w8 h0'
  obtain ⟨k5, k6⟩ := r7 k4
  refine Y72 ?_;refine Dq (ad7 _ t (Nat.le_refl _) (by omega)) ?_;refine Y0 ?_;refine Cq ?_ ?_
  ·intro h1
   have hfin : A7 ts t = (0, [], 0) := by simp only [A7, if_pos h0', h1, if_true]
   refine Y3 ?_;refine yB ?_;refine Y25 ?_;exact Tri.ret ⟨.inr rfl, ce4 rfl b4 ((by rw [hfin]; exact VImp.refl _)) b4 ((by rw [hfin]; exact ToPu.imp (by repeat constructor))) b4 ((by rw [hfin]; exact VImp.refl _))⟩
  ·intro h1
   have hfin : A7 ts t = (y6 ts t (c9 t), c9 t, 0) := by simp only [A7, if_pos h0', h1, Bool.false_eq_true, if_false]
   have hok := F7 k5
   have hN' : a8 t < 2^28 := by omega
   have hwsh := H3 (p := c9 t) k5
   have hkc := bn5 (G := G) a b ts hwd t (c9 t) hok hN' (by generalize d0 t (c9 t) = w at hwsh; obtain ⟨k, n, r, ks, cs⟩ := w; exact hwsh.1) (by generalize d0 t (c9 t) = w at hwsh; obtain ⟨k, n, r, ks, cs⟩ := w; exact hwsh.2.1)
   refine Y72 ?_;refine Dq (aW6 t k5 (by omega)) ?_;refine b9 SS 8 ?_;refine yS ?_;refine b8 [8] ?_;refine Y4 ?_;refine B7 (aK0 a b ts k3 (by omega)) ?_;refine yL ?_;refine b5 (p6 (fun _ => hkc)) ?_;refine Y7 ?_;refine yA ?_;refine yA ?_;refine yB ?_;refine A5 [822, 820, 823, 831, 832, 833, 834, 835, 836] ?_;refine tQ ?_;exact Tri.ret ⟨.inr rfl, ce4 rfl b4 ((by rw [hfin]; exact VImp.refl _)) b4 ((by rw [hfin]; exact VImp.refl _)) b4 ((by rw [hfin]; exact VImp.refl _))⟩
end
section
variable {G : List (Nat × TypeId × Pu)}
def t6 {α : Type} (φ : α → α → Bool) : List α → List α → Bool
 | [], [] => true
 | a :: l, b :: m => φ a b && t6 φ l m
 | _, _ => false
theorem P2 {α : Type} {φ : α → α → Bool} : ∀ {l m : List α}, l.length ≠ m.length → t6 φ l m = false
 | [], [], h => by simp at h
 | [], _ :: _, _ => rfl
 | _ :: _, [], _ => rfl
 | a :: l, b :: m, h => by simp only [t6, P2 (l := l) (m := m) (by simpa using h), Bool.and_false]
theorem K6 {α : Type} {φ : α → α → Bool} : ∀ {l m : List α} {i : Nat} (h : i < l.length) (h2 : i < m.length), t6 φ (l.take (i + 1)) (m.take (i + 1)) = (t6 φ (l.take i) (m.take i) && φ l[i] m[i])
 | a :: l, b :: m, 0, _, _ => by simp [t6]
 | a :: l, b :: m, i + 1, h, h2 => by
  have h' : i < l.length := by simpa using h
  have h2' : i < m.length := by simpa using h2
  have := K6 (φ := φ) h' h2'
  simp only [List.take_succ_cons, t6, List.getElem_cons_succ, this, Bool.and_assoc]
theorem K8 {α : Type} {φ : α → α → Bool} : ∀ {l m : List α} {i : Nat}, t6 φ (l.take i) (m.take i) = false → t6 φ l m = false
 | [], [], i, h => by simp [t6] at h
 | [], _ :: _, i, h => rfl
 | _ :: _, [], i, h => rfl
 | a :: l, b :: m, 0, h => by simp [t6] at h
 | a :: l, b :: m, i + 1, h => by
  simp only [List.take_succ_cons, t6] at h ⊢
  cases hp : φ a b
  ·rfl
  ·rw [hp] at h
   simp only [Bool.true_and] at h ⊢
   exact K8 h
theorem bh8 (f : FuncId) (he : n9 Tryz.prog f = true) (φ : Pat → Pat → Bool) (l m : List Pat) (hl : l.length < 2^40) (hm : m.length < 2^40) (h : ∀ i (h1 : i < l.length) (h2 : i < m.length), FCall Tryz.prog G f [.pu (v7 0 l[i]), .pu (v7 0 m[i])] (bv (φ l[i] m[i]))) :
  FCall Tryz.prog G 166 [.pu (.sl 0 104 (u6 0 l)), .pu (.sl 0 104 (u6 0 m)), fV f] (bv (t6 φ l m)) := by
 refine Fq 32 Tryz.func166 ?_;intro w0 M ρ0 D0
 refine Y71 ?_;refine yC ?_;refine yM ?_;refine Y47 ?_;refine Cq ?_ ?_
 ·intro h0
  have hf : t6 φ l m = false := P2 (by rw [f5, f5] at h0; simp at h0; omega)
  refine Y10 ?_;refine Rq ?_;exact m0 hf.symm
 ·intro h0
  have hlm : l.length = m.length := by rw [f5, f5] at h0; simp at h0; omega
  refine Y87 ?_;refine Y43 ?_;refine Tri.block (Tri.loopW (σ := {i : Nat // t6 φ (l.take i) (m.take i) = true}) (fun i => ⟨[(1, .pu (.sl 0 104 (u6 0 m))), (2, fV f), (15, .pu (.sl 0 104 (u6 0 l))), (16, iv .i64 (u6 0 l).length), (17, iv .i64 i.1)], []⟩) (fun i => l.length - i.1) ⟨0, by simp [t6]⟩ ?_ ?_ (fun i => ?_))
  ·exact zW
  ·exact zW
  refine Y41 ?_;refine Cq ?_ ?_
  ·intro h1
   have hi : i.1 < l.length := by rw [f5] at h1; simpa using h1
   have hi2 : i.1 < m.length := by omega
   have htk := K6 (φ := φ) hi hi2
   rw [i.2, Bool.true_and] at htk
   refine Y20 ?_;refine Y1 ?_;refine b5 (g9 SS (h0 := by omega) (hp := D9 hi)) ?_;refine yL ?_;refine b9 SS 8 ?_;refine yA ?_;refine yS ?_;refine b8 [8] ?_;refine Y17 ?_;refine b5 (g9 SS (h0 := by omega) (hp := D9 hi2)) ?_;refine yL ?_;refine ay6 ?_;refine b8 [9] ?_;refine Y1 ?_;refine Y82 ?_;refine b5 (p6 (fun _ => h i.1 hi hi2) (he := he)) ?_;refine Y98 ?_;refine Cq ?_ ?_
   ·intro h2
    have hf : t6 φ l m = false := K8 (i := i.1 + 1) (by rw [htk]; simpa using h2)
    refine Y10 ?_;refine Rq ?_;exact m0 hf.symm
   ·intro h2
    have hnext : t6 φ (l.take (i.1 + 1)) (m.take (i.1 + 1)) = true := by rw [htk]; simpa using h2
    refine Y66 ?_
    refine ⟨⟨i.1 + 1, hnext⟩, by show l.length - (i.1 + 1) < l.length - i.1; omega, i9 ?_ ?_⟩
    ·exact zE
    ·exact zH
  ·intro h1
   have hf : t6 φ l m = true := by
    have := i.2
    rwa [List.take_of_length_le (by rw [f5] at h1; simp at h1; omega), List.take_of_length_le (by rw [f5] at h1; simp at h1; omega)] at this
   refine Y63 ?_;refine Rq ?_;exact m0 hf.symm
theorem bv5 (f : FuncId) (he : n9 Tryz.prog f = true) (φ : Tm → Tm → Bool) (l m : List Tm) (hl : l.length < 2^40) (hm : m.length < 2^40) (h : ∀ i (h1 : i < l.length) (h2 : i < m.length), FCall Tryz.prog G f [.pu (tmc 0 l[i]), .pu (tmc 0 m[i])] (bv (φ l[i] m[i]))) :
  FCall Tryz.prog G 118 [.pu (.sl 0 32 (l8 0 l)), .pu (.sl 0 32 (l8 0 m)), fV f] (bv (t6 φ l m)) := by
 refine Fq 32 Tryz.func118 ?_;intro w0 M ρ0 D0
 refine Y71 ?_;refine yC ?_;refine yM ?_;refine Y47 ?_;refine Cq ?_ ?_
 ·intro h0
  have hf : t6 φ l m = false := P2 (by rw [a9, a9] at h0; simp at h0; omega)
  refine Y10 ?_;refine Rq ?_;exact m0 hf.symm
 ·intro h0
  have hlm : l.length = m.length := by rw [a9, a9] at h0; simp at h0; omega
  refine Y87 ?_;refine Y43 ?_;refine Tri.block (Tri.loopW (σ := {i : Nat // t6 φ (l.take i) (m.take i) = true}) (fun i => ⟨[(1, .pu (.sl 0 32 (l8 0 m))), (2, fV f), (15, .pu (.sl 0 32 (l8 0 l))), (16, iv .i64 (l8 0 l).length), (17, iv .i64 i.1)], []⟩) (fun i => l.length - i.1) ⟨0, by simp [t6]⟩ ?_ ?_ (fun i => ?_))
  ·exact zW
  ·exact zW
  refine Y41 ?_;refine Cq ?_ ?_
  ·intro h1
   have hi : i.1 < l.length := by rw [a9] at h1; simpa using h1
   have hi2 : i.1 < m.length := by omega
   have htk := K6 (φ := φ) hi hi2
   rw [i.2, Bool.true_and] at htk
   refine Y20 ?_;refine Y1 ?_;refine b5 (g9 SS (h0 := by omega) (hp := q7 hi)) ?_;refine yL ?_;refine b9 SS 8 ?_;refine yA ?_;refine yS ?_;refine b8 [8] ?_;refine Y17 ?_;refine b5 (g9 SS (h0 := by omega) (hp := q7 hi2)) ?_;refine yL ?_;refine ay6 ?_;refine b8 [9] ?_;refine Y1 ?_;refine Y82 ?_;refine b5 (p6 (fun _ => h i.1 hi hi2) (he := he)) ?_;refine Y98 ?_;refine Cq ?_ ?_
   ·intro h2
    have hf : t6 φ l m = false := K8 (i := i.1 + 1) (by rw [htk]; simpa using h2)
    refine Y10 ?_;refine Rq ?_;exact m0 hf.symm
   ·intro h2
    have hnext : t6 φ (l.take (i.1 + 1)) (m.take (i.1 + 1)) = true := by rw [htk]; simpa using h2
    refine Y66 ?_
    refine ⟨⟨i.1 + 1, hnext⟩, by show l.length - (i.1 + 1) < l.length - i.1; omega, i9 ?_ ?_⟩
    ·exact zE
    ·exact zH
  ·intro h1
   have hf : t6 φ l m = true := by
    have := i.2
    rwa [List.take_of_length_le (by rw [a9] at h1; simp at h1; omega), List.take_of_length_le (by rw [a9] at h1; simp at h1; omega)] at this
   refine Y63 ?_;refine Rq ?_;exact m0 hf.symm
theorem bv6 (f : FuncId) (he : n9 Tryz.prog f = true) (φ : Cs → Cs → Bool) (l m : List Cs) (hl : l.length < 2^40) (hm : m.length < 2^40) (h : ∀ i (h1 : i < l.length) (h2 : i < m.length), FCall Tryz.prog G f [.pu (J3 0 l[i]), .pu (J3 0 m[i])] (bv (φ l[i] m[i]))) :
  FCall Tryz.prog G 97 [.pu (.sl 0 106 (z8 0 l)), .pu (.sl 0 106 (z8 0 m)), fV f] (bv (t6 φ l m)) := by
 refine Fq 32 Tryz.func97 ?_;intro w0 M ρ0 D0
 refine Y71 ?_;refine yC ?_;refine yM ?_;refine Y47 ?_;refine Cq ?_ ?_
 ·intro h0
  have hf : t6 φ l m = false := P2 (by rw [j3, j3] at h0; simp at h0; omega)
  refine Y10 ?_;refine Rq ?_;exact m0 hf.symm
 ·intro h0
  have hlm : l.length = m.length := by rw [j3, j3] at h0; simp at h0; omega
  refine Y87 ?_;refine Y43 ?_;refine Tri.block (Tri.loopW (σ := {i : Nat // t6 φ (l.take i) (m.take i) = true}) (fun i => ⟨[(1, .pu (.sl 0 106 (z8 0 m))), (2, fV f), (15, .pu (.sl 0 106 (z8 0 l))), (16, iv .i64 (z8 0 l).length), (17, iv .i64 i.1)], []⟩) (fun i => l.length - i.1) ⟨0, by simp [t6]⟩ ?_ ?_ (fun i => ?_))
  ·exact zW
  ·exact zW
  refine Y41 ?_;refine Cq ?_ ?_
  ·intro h1
   have hi : i.1 < l.length := by rw [j3] at h1; simpa using h1
   have hi2 : i.1 < m.length := by omega
   have htk := K6 (φ := φ) hi hi2
   rw [i.2, Bool.true_and] at htk
   refine Y20 ?_;refine Y1 ?_;refine b5 (g9 SS (h0 := by omega) (hp := G2 hi)) ?_;refine yL ?_;refine b9 SS 8 ?_;refine yA ?_;refine yS ?_;refine b8 [8] ?_;refine Y17 ?_;refine b5 (g9 SS (h0 := by omega) (hp := G2 hi2)) ?_;refine yL ?_;refine ay6 ?_;refine b8 [9] ?_;refine Y1 ?_;refine Y82 ?_;refine b5 (p6 (fun _ => h i.1 hi hi2) (he := he)) ?_;refine Y98 ?_;refine Cq ?_ ?_
   ·intro h2
    have hf : t6 φ l m = false := K8 (i := i.1 + 1) (by rw [htk]; simpa using h2)
    refine Y10 ?_;refine Rq ?_;exact m0 hf.symm
   ·intro h2
    have hnext : t6 φ (l.take (i.1 + 1)) (m.take (i.1 + 1)) = true := by rw [htk]; simpa using h2
    refine Y66 ?_
    refine ⟨⟨i.1 + 1, hnext⟩, by show l.length - (i.1 + 1) < l.length - i.1; omega, i9 ?_ ?_⟩
    ·exact zE
    ·exact zH
  ·intro h1
   have hf : t6 φ l m = true := by
    have := i.2
    rwa [List.take_of_length_le (by rw [j3] at h1; simp at h1; omega), List.take_of_length_le (by rw [j3] at h1; simp at h1; omega)] at this
   refine Y63 ?_;refine Rq ?_;exact m0 hf.symm
mutual
def I8 : Pat → Pat → Bool
 | .mk k n r ks, .mk k' n' r' ks' => (k == k' && n == n' && r == r') && av7 ks ks'
def av7 : List Pat → List Pat → Bool
 | [], [] => true
 | p :: ps, q :: qs => I8 p q && av7 ps qs
 | _, _ => false
end
theorem al0 : ∀ l m, av7 l m = t6 I8 l m
 | [], [] => rfl
 | [], _ :: _ => rfl
 | _ :: _, [] => rfl
 | p :: ps, q :: qs => by simp only [av7, t6, al0 ps qs]
mutual
def C7 : Tm → Tm → Bool
 | .mk k n r ks cs, .mk k' n' r' ks' cs' => (k == k' && n == n' && r == r') && V7 ks ks' && ab3 cs cs'
def V7 : List Tm → List Tm → Bool
 | [], [] => true
 | p :: ps, q :: qs => C7 p q && V7 ps qs
 | _, _ => false
def ab3 : List Cs → List Cs → Bool
 | [], [] => true
 | p :: ps, q :: qs => R8 p q && ab3 ps qs
 | _, _ => false
def R8 : Cs → Cs → Bool
 | .mk p t, .mk q u => I8 p q && C7 t u
end
theorem ak9 : ∀ l m, V7 l m = t6 C7 l m
 | [], [] => by simp [V7, t6]
 | [], _ :: _ => by simp [V7, t6]
 | _ :: _, [] => by simp [V7, t6]
 | p :: ps, q :: qs => by simp only [V7, t6, ak9 ps qs]
theorem al1 : ∀ l m, ab3 l m = t6 R8 l m
 | [], [] => by simp [ab3, t6]
 | [], _ :: _ => by simp [ab3, t6]
 | _ :: _, [] => by simp [ab3, t6]
 | p :: ps, q :: qs => by simp only [ab3, t6, al1 ps qs]
theorem br9 : ∀ (N : Nat) (p q : Pat), l9 p ≤ N → N < 2^40 → l9 q < 2^40 → FCall Tryz.prog G 99 [.pu (v7 0 p), .pu (v7 0 q)] (bv (I8 p q)) := by
 intro N
 induction N with
 | zero => intro p q h; cases p; simp [l9] at h
 | succ N ih =>
 intro p q hp hN hq
 obtain ⟨k, n, r, ks⟩ := p
 obtain ⟨k', n', r', ks'⟩ := q
 simp only [l9] at hp hq
 have hlen := m4 ks
 have hlen' := m4 ks'
 refine Fq 31 Tryz.func99 ?_;intro w0 M ρ0 D0
 refine Tri.fact (i := 0) rfl (fun D w x h => W8 h) (fun hr => ?_);refine Tri.fact (i := 1) rfl (fun D w x h => W8 h) (fun hr' => ?_)
 simp only [wfP] at hr hr'
 refine Y91 ?_;refine Y13 ?_;refine Y54 ?_;refine Y39 ?_;refine Y53 ?_;refine Y39 ?_;refine f7 zG (D4 SS (h := U6 (hr.1.trans hr'.1.symm))) ?_;refine yN ?_;refine Y39 ?_;refine f7 zG (c8 (fun _ => bh8 99 (by kernel_rfl) I8 ks ks' (by omega) (by omega) (fun i h1 h2 => ih _ _ (by have := q9 h1; omega) (by omega) (by have := q9 h2; omega)))) ?_;refine Y44 ?_;refine Rq ?_;exact m0 (by simp only [I8, al0])
theorem bT3 (c d : Cs) (hp : p9 c < 2^40) (hq : p9 d < 2^40) (h : FCall Tryz.prog G 23 [.pu (tmc 0 (csT c)), .pu (tmc 0 (csT d))] (bv (C7 (csT c) (csT d)))) : FCall Tryz.prog G 98 [.pu (J3 0 c), .pu (J3 0 d)] (bv (R8 c d)) := by
 obtain ⟨p, t⟩ := c
 obtain ⟨q, u⟩ := d
 simp only [csT, p9] at h hp hq
 refine Fq 17 Tryz.func98 ?_;intro w0 M ρ0 D0
 refine Y91 ?_;refine Y13 ?_;refine Y5 ?_;refine Dq (br9 _ p q (Nat.le_refl _) (by omega) (by omega)) ?_;refine Y39 ?_;refine f7 zG (c8 (fun _ => h)) ?_;refine Y44 ?_;refine Rq ?_;exact m0 (by simp only [R8])
theorem aH2 (l m : List Tm) (hl : l.length < 2^40) (hm : m.length < 2^40) (h : ∀ i (h1 : i < l.length) (h2 : i < m.length), FCall Tryz.prog G 23 [.pu (tmc 0 l[i]), .pu (tmc 0 m[i])] (bv (C7 l[i] m[i]))) : FCall Tryz.prog G 50 [.pu (.sl 0 32 (l8 0 l)), .pu (.sl 0 32 (l8 0 m))] (bv (V7 l m)) := by
 refine Fq 8 Tryz.func50 ?_;intro w0 M ρ0 D0
 refine Y21 ?_;refine Y17 ?_;refine Dq (bv5 23 (by kernel_rfl) C7 l m hl hm h) ?_;refine Y2 ?_;refine Rq ?_;exact m0 (by rw [ak9])
theorem M7 : ∀ (N : Nat) (t u : Tm), a8 t ≤ N → N < 2^40 → a8 u < 2^40 → FCall Tryz.prog G 23 [.pu (tmc 0 t), .pu (tmc 0 u)] (bv (C7 t u)) := by
 intro N
 induction N with
 | zero => intro t u h; have := m8 t; omega
 | succ N ih =>
 intro t u hp hN hq
 obtain ⟨k, n, r, ks, cs⟩ := t
 obtain ⟨k', n', r', ks', cs'⟩ := u
 simp only [a8] at hp hq
 have hlen := f9 ks
 have hlen' := f9 ks'
 have hlc := m5 cs
 have hlc' := m5 cs'
 refine Fq 38 Tryz.func23 ?_;intro w0 M ρ0 D0
 refine Tri.fact (i := 0) rfl (fun D w x h => ab7 h) (fun hr => ?_);refine Tri.fact (i := 1) rfl (fun D w x h => ab7 h) (fun hr' => ?_)
 simp only [wfT] at hr hr'
 have hcs : ∀ i (h1 : i < cs.length) (h2 : i < cs'.length), FCall Tryz.prog G 98 [.pu (J3 0 cs[i]), .pu (J3 0 cs'[i])] (bv (R8 cs[i] cs'[i])) := fun i h1 h2 => by
  have s1 := E4 h1
  have s2 := E4 h2
  generalize cs[i] = c at s1 ⊢
  generalize cs'[i] = d at s2 ⊢
  refine bT3 c d (by omega) (by omega) ?_
  obtain ⟨p, t⟩ := c
  obtain ⟨q, u⟩ := d
  simp only [p9, csT] at s1 s2 ⊢
  exact ih t u (by omega) (by omega) (by omega)
 refine Y91 ?_;refine Y13 ?_;refine Y54 ?_;refine Y39 ?_;refine Y53 ?_;refine Y39 ?_;refine f7 zG (D4 SS (h := U6 (hr.1.trans hr'.1.symm))) ?_;refine yN ?_;refine Y39 ?_;refine f7 zG (c8 (fun _ => aH2 ks ks' (by omega) (by omega) (fun i h1 h2 => ih _ _ (by have := D5 h1; omega) (by omega) (by have := D5 h2; omega)))) ?_;refine yN ?_;refine Y39 ?_;refine f7 zG (c8 (fun _ => bv6 98 (by kernel_rfl) R8 cs cs' (by omega) (by omega) hcs)) ?_;refine Y44 ?_
 refine Rq ?_;exact m0 (by simp only [C7, al1])
mutual
theorem ao4 : ∀ p : Pat, I8 p p = true
 | .mk k n r ks => by simp [I8, az4 ks]
theorem az4 : ∀ ps : List Pat, av7 ps ps = true
 | [] => rfl
 | p :: ps => by simp [av7, ao4 p, az4 ps]
end
mutual
theorem D7 : ∀ t : Tm, C7 t t = true
 | .mk k n r ks cs => by simp [C7, aa5 ks, az5 cs]
theorem aa5 : ∀ ts : List Tm, V7 ts ts = true
 | [] => by simp [V7]
 | t :: ts => by simp [V7, D7 t, aa5 ts]
theorem az5 : ∀ cs : List Cs, ab3 cs cs = true
 | [] => by simp [ab3]
 | c :: cs => by simp [ab3, bl8 c, az5 cs]
theorem bl8 : ∀ c : Cs, R8 c c = true
 | .mk p t => by simp [R8, ao4 p, D7 t]
end
end
section
def j5 (n : Int) : List Int := n :: List.replicate 31 0
def gL : List (Nat × TypeId × Pu) := [(0, 28, l4 (j5 11)), (1, 28, l4 (j5 3)), (2, 28, l4 (j5 13)), (3, 28, l4 (j5 12)), (4, 28, l4 (j5 21)), (5, 28, l4 (j5 2)), (6, 28, l4 (j5 4)), (7, 28, l4 (j5 24)), (8, 28, l4 (j5 1)), (9, 28, l4 (j5 22)), (10, 28, l4 (j5 23))]
def gA : List (Nat × TypeId × Pu) := [(0, 28, l4 (j5 11)), (4, 28, l4 (j5 21))]
section
variable {G : List (Nat × TypeId × Pu)}
theorem bZ9 (r : List Int) (ks : List Tm) : FCall Tryz.prog G 37 [.pu (l4 r), .pu (.sl 0 32 (l8 0 ks))] (.pu (tmc 0 (.mk 12 0 r ks []))) := by
 refine Fq 8 Tryz.func37 ?_;intro w0 M ρ0 D0
 refine Y36 ?_;refine b9 SS 4 ?_;refine b8 [2, 4] ?_;refine Y65 ?_;refine Y75 ?_;refine Rc ?_;exact ToPu.imp (by repeat constructor)
theorem bR7 (r : List Int) (n : Int) (ks : List Pat) : FCall Tryz.prog G 67 [.pu (l4 r), iv .i64 n, .pu (.sl 0 104 (u6 0 ks))] (.pu (v7 0 (.mk 3 n r ks))) := by
 refine Fq 11 Tryz.func67 ?_;intro w0 M ρ0 D0
 refine Y49 ?_;refine b9 SS 6 ?_;refine b8 [3, 6] ?_;refine Y4 ?_;refine Y48 ?_;refine Y75 ?_;refine Rc ?_;exact ToPu.imp (by repeat constructor)
def rowZ : Pu := .agg 56 [.sl 0 28 [], .leaf (.bool false), .leaf (.int .i64 0)]
def aT6 (k n : Int) (r : List Int) (ks : List Pu) : Pu := .agg 58 [.leaf (.int .i64 k), .leaf (.int .i64 n), l4 r, .sl 0 58 ks, rowZ]
instance (k n : Int) (r : List Int) (ks : List Pu) : TyV Tryz.prog 58 (.pu (aT6 k n r ks)) := inferInstanceAs (TyV Tryz.prog 58 (.pu (.agg _ _)))
theorem V_c (n : Int) : FCall Tryz.prog G 108 [iv .i64 n] (.pu (aT6 1 n Z32 [])) := by
 refine Fq 5 Tryz.func108 ?_;intro w0 M ρ0 D0
 refine yR ?_;refine b9 SS 2 ?_;refine b8 [2] ?_;refine Y1 ?_;refine Y75 ?_;refine Rc ?_;exact ToPu.imp (by repeat constructor)
theorem N_c : FCall Tryz.prog G 29 [] (.pu (aT6 2 0 Z32 [])) := by
 refine Fq 2 Tryz.func29 ?_;intro w0 M ρ0 D0
 refine yR ?_;refine b9 SS 0 ?_;refine b8 [0] ?_;refine yR ?_;refine Y75 ?_;refine Rc ?_;exact ToPu.imp (by repeat constructor)
theorem D_c (r : List Int) (ks : List Pu) : FCall Tryz.prog G 109 [.pu (l4 r), .pu (.sl 0 58 ks)] (.pu (aT6 4 0 r ks)) := by
 refine Fq 8 Tryz.func109 ?_;intro w0 M ρ0 D0
 refine Y36 ?_;refine b9 SS 4 ?_;refine b8 [2, 4] ?_;refine Y65 ?_;refine Y75 ?_;refine Rc ?_;exact ToPu.imp (by repeat constructor)
end
def vaM (n : Int) : Tm := .mk 1 n Z32 [] []
def nuM (n : Int) : Tm := .mk 2 n Z32 [] []
def laM (t : Tm) : Tm := .mk 3 0 Z32 [t] []
def apM (s t : Tm) : Tm := .mk 4 0 Z32 [s, t] []
def deM (r : List Int) : Tm := .mk 6 0 r [] []
def prM (n : Int) (s t : Tm) : Tm := .mk 10 n Z32 [s, t] []
def maM (t : Tm) (cs : List Cs) : Tm := .mk 9 0 Z32 [t] cs
def T3 : Pat := .mk 1 0 Z32 []
def pnM (n : Int) : Pat := .mk 2 n Z32 []
def pcM (r : List Int) (n : Int) (ks : List Pat) : Pat := .mk 3 n r ks
def worldT : List KT := [(j5 21, laM (prM 1 (vaM 0) (nuM 1))), (j5 22, laM (laM (prM 1 (vaM 1) (vaM 0)))),
 (j5 23, laM (maM (vaM 0) [.mk (pcM (j5 2) 0 []) (nuM 0), .mk (pcM (j5 2) 1 [T3, T3]) (prM 1 (vaM 1) (apM (deM (j5 23)) (vaM 0)))])),
 (j5 24, laM (maM (vaM 0) [.mk (pnM 0) (nuM 0), .mk T3 (apM (deM (j5 24)) (prM 2 (vaM 0) (nuM 1)))]))]
def kdP (r : List Int) (u : Array UInt8) (n : Int) (cons : List (List Pu)) : Pu := .agg 130 [l4 r, .agg 128 [.leaf (.string ⟨u⟩), .leaf (.int .i64 n), .sl 0 53 (cons.map fun l => .sl 0 58 l)]]
def kaP (r : List Int) (u : Array UInt8) (ops : List Pu) : Pu := .agg 136 [l4 r, .agg 134 [.leaf (.string ⟨u⟩), .sl 0 167 ops]]
def vT (n : Int) : Pu := aT6 1 n Z32 []
def nT : Pu := aT6 2 0 Z32 []
def opT (f t : Pu) : Pu := .agg 167 [f, t]
def aF9 : Pu := .sl 0 130 [kdP (j5 1) #[] 0 [[], []], kdP (j5 2) #[] 1 [[], [vT 0, aT6 4 0 (j5 2) [vT 0]]], kdP (j5 3) #[] 2 [[vT 0, vT 1]], kdP (j5 4) #[111, 112, 116] 1 [[], [vT 0]]]
def aF8 : Pu := .sl 0 136 [kaP (j5 11) #[] [opT nT nT, opT nT nT], kaP (j5 12) #[] [opT nT (aT6 4 0 (j5 1) [])], kaP (j5 13) #[97, 98, 111, 114, 116] [opT nT nT]]
set_option maxHeartbeats 4000000 in
theorem bx7 : FCall Tryz.prog gL 25 [] (.pu (wdP aF9 aF8 worldT)) := by
 refine Fq 113 Tryz.func25 ?_;intro w0 M ρ0 D0
 refine yR ?_;refine b9 SS 0 ?_;refine b8 [0] ?_;refine yR ?_;refine yG ?_;refine yZ ?_;refine yZ ?_;refine Y81 ?_;refine yP ?_;refine yG ?_;refine yZ ?_;refine Dq (V_c 0) ?_;refine yG ?_;refine Dq (V_c 0) ?_;refine yZ ?_;refine Dq (D_c (j5 2) [aT6 1 0 Z32 []]) ?_;refine yZ ?_;refine Y81 ?_;refine yP ?_;refine yG ?_;refine Dq (V_c 0) ?_;refine Dq (V_c 1) ?_;refine yZ ?_;refine Y81 ?_;refine yP ?_;refine yG ?_;refine yZ ?_;refine Dq (V_c 0) ?_;refine yZ ?_;refine Y81 ?_;refine yP ?_;refine yZ ?_;refine yG ?_;refine Dq N_c ?_;refine Dq N_c ?_;refine yP ?_;refine Dq N_c ?_;refine Dq N_c ?_;refine yP ?_;refine Y81 ?_;refine yP ?_;refine yG ?_
 refine Dq N_c ?_;refine yG ?_;refine Dq (D_c (j5 1) []) ?_;refine yP ?_;refine Y81 ?_;refine yP ?_;refine yG ?_;refine Dq N_c ?_;refine Dq N_c ?_;refine yP ?_;refine Y81 ?_;refine yP ?_;refine yZ ?_;refine yG ?_;refine Dq (P6 0) ?_;refine Dq (F8 1) ?_;refine Dq (ah1 1 (vaM 0) (nuM 1)) ?_;refine Dq (aO2 (prM 1 (vaM 0) (nuM 1))) ?_;refine yP ?_;refine yG ?_;refine Dq (P6 1) ?_;refine Dq (P6 0) ?_;refine Dq (ah1 1 (vaM 1) (vaM 0)) ?_;refine Dq (aO2 (prM 1 (vaM 1) (vaM 0))) ?_;refine Dq (aO2 (laM (prM 1 (vaM 1) (vaM 0)))) ?_;refine yP ?_;refine yG ?_;refine Dq (P6 0) ?_
 refine yG ?_;refine Dq (bR7 (j5 2) 0 []) ?_;refine Dq (F8 0) ?_;refine Dq (bq1 (pcM (j5 2) 0 []) (nuM 0)) ?_;refine yG ?_;refine Dq aT1 ?_;refine Dq aT1 ?_;refine yZ ?_;refine Dq (bR7 (j5 2) 1 [T3, T3]) ?_;refine Dq (P6 1) ?_;refine yG ?_;refine Dq (aq7 (j5 23)) ?_;refine Dq (P6 0) ?_;refine Dq (aq8 (deM (j5 23)) (vaM 0)) ?_;refine Dq (ah1 1 (vaM 1) (apM (deM (j5 23)) (vaM 0))) ?_;refine Dq (bq1 (pcM (j5 2) 1 [T3, T3]) (prM 1 (vaM 1) (apM (deM (j5 23)) (vaM 0)))) ?_;refine yZ ?_
 refine Dq (bR8 (vaM 0) [.mk (pcM (j5 2) 0 []) (nuM 0), .mk (pcM (j5 2) 1 [T3, T3]) (prM 1 (vaM 1) (apM (deM (j5 23)) (vaM 0)))]) ?_;refine Dq (aO2 (maM (vaM 0) [.mk (pcM (j5 2) 0 []) (nuM 0), .mk (pcM (j5 2) 1 [T3, T3]) (prM 1 (vaM 1) (apM (deM (j5 23)) (vaM 0)))])) ?_;refine yP ?_;refine yG ?_;refine Dq (P6 0) ?_;refine Dq (ch4 0) ?_;refine Dq (F8 0) ?_;refine Dq (bq1 (pnM 0) (nuM 0)) ?_;refine Dq aT1 ?_;refine yG ?_;refine Dq (aq7 (j5 24)) ?_;refine Dq (P6 0) ?_;refine Dq (F8 1) ?_;refine Dq (ah1 2 (vaM 0) (nuM 1)) ?_;refine Dq (aq8 (deM (j5 24)) (prM 2 (vaM 0) (nuM 1))) ?_
 refine Dq (bq1 T3 (apM (deM (j5 24)) (prM 2 (vaM 0) (nuM 1)))) ?_;refine yZ ?_;refine Dq (bR8 (vaM 0) [.mk (pnM 0) (nuM 0), .mk T3 (apM (deM (j5 24)) (prM 2 (vaM 0) (nuM 1)))]) ?_;refine Dq (aO2 (maM (vaM 0) [.mk (pnM 0) (nuM 0), .mk T3 (apM (deM (j5 24)) (prM 2 (vaM 0) (nuM 1)))])) ?_;refine yP ?_;refine Y81 ?_;refine ay5 ?_;refine Rc ?_;exact ToPu.imp (by repeat constructor)
end
theorem aj7 {G : List (Nat × TypeId × Pu)} (l m : List Nat) (hl : l.length < 2^40) (hm : m.length < 2^40) : FCall Tryz.prog G 20 [.pu (.sl 0 3 (r0 l)), .pu (.sl 0 3 (r0 m))] (bv (t6 (fun a b : Nat => (a : Int) == (b : Int)) l m)) := by
 refine Fq 26 Tryz.func20 ?_;intro w0 M ρ0 D0
 refine Y71 ?_;refine yC ?_;refine yM ?_;refine Y47 ?_;refine Cq ?_ ?_
 ·intro h0
  have hf : t6 (fun a b : Nat => (a : Int) == (b : Int)) l m = false := P2 (by rw [t8, t8] at h0; simp at h0; omega)
  refine Y10 ?_;refine Rq ?_;exact m0 hf.symm
 ·intro h0
  have hlm : l.length = m.length := by rw [t8, t8] at h0; simp at h0; omega
  refine Y87 ?_;refine Y43 ?_;refine Tri.block (Tri.loopW (σ := {i : Nat // t6 (fun a b : Nat => (a : Int) == (b : Int)) (l.take i) (m.take i) = true}) (fun i => ⟨[(0, .pu (.sl 0 3 (r0 l))), (1, .pu (.sl 0 3 (r0 m))), (12, iv .i64 (r0 l).length), (13, iv .i64 i.1)], []⟩) (fun i => l.length - i.1) ⟨0, by simp [t6]⟩ ?_ ?_ (fun i => ?_))
  ·exact zW
  ·exact zW
  refine Y41 ?_;refine Cq ?_ ?_
  ·intro h1
   have hi : i.1 < l.length := by rw [t8] at h1; simpa using h1
   have hi2 : i.1 < m.length := by omega
   have htk := K6 (φ := fun a b : Nat => (a : Int) == (b : Int)) hi hi2
   rw [i.2, Bool.true_and] at htk
   refine Y20 ?_;refine Y95 ?_;refine Y17 ?_;refine b5 (g9 SS (h0 := by omega) (hp := ac3 hi)) ?_;refine yL ?_;refine Y48 ?_;refine b5 (g9 SS (h0 := by omega) (hp := ac3 hi2)) ?_;refine yL ?_;refine yI ?_;refine Y42 ?_;refine Cq ?_ ?_
   ·intro h2
    have hf : t6 (fun a b : Nat => (a : Int) == (b : Int)) l m = false := K8 (i := i.1 + 1) (by rw [htk]; simp at h2; simp; omega)
    refine Y10 ?_;refine Rq ?_;exact m0 hf.symm
   ·intro h2
    have hnext : t6 (fun a b : Nat => (a : Int) == (b : Int)) (l.take (i.1 + 1)) (m.take (i.1 + 1)) = true := by rw [htk]; simp at h2; simp; omega
    refine Y66 ?_
    refine ⟨⟨i.1 + 1, hnext⟩, by show l.length - (i.1 + 1) < l.length - i.1; omega, i9 ?_ ?_⟩
    ·exact zE
    ·exact zH
  ·intro h1
   have hf : t6 (fun a b : Nat => (a : Int) == (b : Int)) l m = true := by
    have := i.2
    rwa [List.take_of_length_le (by rw [t8] at h1; simp at h1; omega), List.take_of_length_le (by rw [t8] at h1; simp at h1; omega)] at this
   refine Y63 ?_;refine Rq ?_;exact m0 hf.symm
def S9 (r : List Int) (n : Int) (t : Tm) : Tm := .mk 11 n r [t] []
def am7 (b : Tm) : Tm := .mk 12 0 (j5 11) [prM 1 (S9 (j5 11) 0 (nuM 5)) (nuM 1), vaM 0, b] []
theorem Q9 (b : Tm) : FCall Tryz.prog gA 69 [.pu (tmc 0 b)] (.pu (tmc 0 (am7 b))) := by
 refine Fq 13 Tryz.func69 ?_;intro w0 M ρ0 D0
 refine Y67 ?_;refine yR ?_;refine yG ?_;refine yG ?_;refine Dq (F8 5) ?_;refine Dq (aN4 (j5 11) 0 (nuM 5)) ?_;refine Dq (F8 1) ?_;refine Dq (ah1 1 (S9 (j5 11) 0 (nuM 5)) (nuM 1)) ?_;refine Dq (P6 0) ?_;refine yL ?_;refine yZ ?_;refine Dq (bZ9 (j5 11) [prM 1 (S9 (j5 11) 0 (nuM 5)) (nuM 1), vaM 0, b]) ?_;refine ay5 ?_;refine Rc ?_;exact ToPu.imp (by repeat constructor)
def awT : List KT := [(j5 21, apM (deM (j5 21)) (nuM 0))]
def aw1 : Tm := apM (laM (prM 1 (vaM 0) (vaM 0))) (prM 1 (nuM 1) (nuM 2))
def X0 : Tm := apM (vaM 0) (vaM 1)
def Q0 : Tm := prM 1 (apM (vaM 0) (nuM 1)) (apM (vaM 0) (nuM 2))
theorem cb7 : ∀ x ∈ awT, a8 x.2 < 2^40 := by intro x hx; simp only [awT, List.mem_singleton] at hx; subst hx; decide
abbrev awA : Pu := .sl 0 130 []
abbrev awB : Pu := .sl 0 136 []
theorem bp8 (t : Tm) {x : Int × List Nat × Int} (h : A7 awT t = x) (hz : a8 t < 2^40) : FCall Tryz.prog gA 18 [.pu (wdP awA awB awT), .pu (tmc 0 t)] (cb2 x) := h ▸ ao2 awA awB awT t cb7 hz
theorem bi8 (t : Tm) (n : Int) {x : EndM × Int} (h : F9 awT t n = x) (hz : a8 t < 2^40) : FCall Tryz.prog gA 35 [.pu (wdP awA awB awT), .pu (tmc 0 t), iv .i64 n] (ce5 x) := h ▸ bI6 awA awB awT t n cb7 hz
theorem cl8 : A7 awT aw1 = (4, [1], 0) := by kernel_rfl
theorem cl5 : F9 awT aw1 10 = (⟨0, 3, nuM 6, Z32, 0⟩, 0) := by kernel_rfl
theorem cl4 : F9 awT (am7 X0) 10 = (⟨0, 4, nuM 6, Z32, 0⟩, 0) := by kernel_rfl
theorem cl3 : F9 awT (am7 (vaM 1)) 10 = (⟨0, 1, nuM 5, Z32, 0⟩, 0) := by kernel_rfl
theorem cl2 : F9 awT (am7 Q0) 20 = (⟨0, 8, nuM 5, Z32, 0⟩, 0) := by kernel_rfl
theorem cl1 : F9 awT (deM (j5 21)) 10 = (⟨10, 10, j7, Z32, 0⟩, 0) := by kernel_rfl
theorem cl7 : A7 awT (apM (nuM 1) (nuM 2)) = (8, [], 0) := by kernel_rfl
theorem cl6 : A7 awT (S9 (j5 11) 0 (nuM 1)) = (9, [], 0) := by kernel_rfl
set_option maxHeartbeats 4000000 in
theorem awake_c : FCall Tryz.prog gA 13 [] (bv true) := by
 refine Fq 203 Tryz.func13 ?_;intro w0 M ρ0 D0
 refine Y10 ?_;refine Cq ?_ ?_
 ·intro h0;cases h0
 ·intro h0
  refine Tri.skip ?_;refine yR ?_;refine yG ?_;refine yG ?_;refine Dq (aq7 (j5 21)) ?_;refine Dq (F8 0) ?_;refine Dq (aq8 (deM (j5 21)) (nuM 0)) ?_;refine yP ?_;refine Y81 ?_;refine b9 SS 1 ?_;refine yS ?_;refine A5 [1] ?_;refine yR ?_;refine Dq (P6 0) ?_;refine Dq (P6 0) ?_;refine Dq (ah1 1 (vaM 0) (vaM 0)) ?_;refine Dq (aO2 (prM 1 (vaM 0) (vaM 0))) ?_;refine Dq (F8 1) ?_;refine Dq (F8 2) ?_;refine Dq (ah1 1 (nuM 1) (nuM 2)) ?_;refine Dq (aq8 (laM (prM 1 (vaM 0) (vaM 0))) (prM 1 (nuM 1) (nuM 2))) ?_;refine b9 SS 2 ?_;refine yS ?_;refine b8 [2] ?_;refine Y22 ?_
  refine Dq (bp8 aw1 cl8 (by decide)) ?_;refine Y28 ?_;refine yX ?_;refine yA ?_;refine Y61 ?_;refine Y22 ?_;refine Dq (bi8 aw1 10 cl5 (by decide)) ?_;refine Y28 ?_;refine b9 SS 6 ?_;refine yS ?_;refine yA ?_;refine b8 [6] ?_;refine Y4 ?_;refine Dq aN2 ?_;refine Dq (Q9 X0) ?_;refine Dq (bi8 (am7 X0) 10 cl4 (by decide)) ?_;refine Y28 ?_;refine b9 SS 8 ?_;refine yS ?_;refine yA ?_;refine A5 [8] ?_;refine Y4 ?_;refine Dq (P6 1) ?_;refine Dq (Q9 (vaM 1)) ?_;refine Dq (bi8 (am7 (vaM 1)) 10 cl3 (by decide)) ?_;refine Y27 ?_
  refine yX ?_;refine b9 SS 10 ?_;refine yS ?_;refine yA ?_;refine A5 [10] ?_;refine Y4 ?_;refine Dq aF2 ?_;refine Dq (Q9 Q0) ?_;refine Dq (bi8 (am7 Q0) 20 cl2 (by decide)) ?_;refine Y28 ?_;refine b9 SS 12 ?_;refine yS ?_;refine yA ?_;refine A5 [12] ?_;refine Y4 ?_;refine yG ?_;refine Dq (aq7 (j5 21)) ?_;refine Dq (bi8 (deM (j5 21)) 10 cl1 (by decide)) ?_;refine Y28 ?_;refine b9 SS 14 ?_;refine yS ?_;refine yA ?_;refine A5 [14] ?_;refine Y4 ?_;refine Dq (F8 1) ?_;refine Dq (F8 2) ?_;refine Dq (aq8 (nuM 1) (nuM 2)) ?_
  refine Dq (bp8 (apM (nuM 1) (nuM 2)) cl7 (by decide)) ?_;refine Y28 ?_;refine yX ?_;refine yA ?_;refine yA ?_;refine av1 ?_;refine Y4 ?_;refine yG ?_;refine Dq (F8 1) ?_;refine Dq (aN4 (j5 11) 0 (nuM 1)) ?_;refine Dq (bp8 (S9 (j5 11) 0 (nuM 1)) cl6 (by decide)) ?_;refine Y28 ?_;refine yX ?_;refine yA ?_;refine yA ?_;refine av1 ?_;refine Y58 ?_;refine yN ?_;refine Y35 ?_;refine yN ?_;refine Y35 ?_;refine yN ?_;refine Y35 ?_;refine yN ?_;refine Y35 ?_;refine yN ?_;refine Y35 ?_;refine yN ?_;refine Y35 ?_;refine yN ?_;refine yM ?_
  refine Y19 ?_;refine yN ?_;refine Y69 ?_;refine f7 zG (by3 SS) ?_;refine f7 zG (c8 (fun _ => aj7 [1] [1] (by decide) (by decide))) ?_;refine yN ?_;refine Y12 ?_;refine Y53 ?_;refine Y12 ?_;refine Y53 ?_;refine yM ?_;refine xF ?_;refine Y6 ?_;refine Y53 ?_;refine Y12 ?_;refine Y53 ?_;refine yM ?_;refine xF ?_;refine Y6 ?_;refine Y53 ?_;refine Y12 ?_;refine Y53 ?_;refine yM ?_;refine xF ?_;refine Y6 ?_;refine Y53 ?_;refine Y12 ?_;refine Y53 ?_;refine yM ?_;refine xF ?_;refine Y6 ?_;refine Y53 ?_;refine Y12 ?_;refine Y53 ?_;refine Y12 ?_;refine Y53 ?_;refine yM ?_
  refine Y19 ?_;refine yN ?_;refine Y35 ?_;refine Y44 ?_;refine Rq ?_;exact m0 (by kernel_rfl)
theorem ac6 : ∀ g T p, get gA g = some (T, p) → get gL g = some (T, p) := by
 intro g T p h
 simp only [gA, m1, Hs.get] at h
 split at h
 ·rename_i e; subst e; exact h
 ·split at h
  ·rename_i e; subst e; exact h
  ·cases h
theorem bR0 : FCall Tryz.prog gL 13 [] (bv true) := awake_c.moreG ac6
section
variable {G : List (Nat × TypeId × Pu)}
mutual
def ai4 : Pat → Nat
 | .mk _ _ _ ks => Q4 ks + 1
def Q4 : List Pat → Nat
 | [] => 0
 | p :: ps => max (ai4 p) (Q4 ps)
end
mutual
def ah7 : Tm → Nat
 | .mk _ _ _ ks cs => max (S5 ks) (Z5 cs) + 1
def S5 : List Tm → Nat
 | [] => 0
 | t :: ts => max (ah7 t) (S5 ts)
def aB1 : Cs → Nat
 | .mk p t => max (ai4 p) (ah7 t)
def Z5 : List Cs → Nat
 | [] => 0
 | c :: cs => max (aB1 c) (Z5 cs)
end
mutual
theorem as5 : ∀ p : Pat, ai4 p ≤ l9 p
 | .mk _ _ _ ks => by have := aw4 ks; simp only [ai4, l9]; omega
theorem aw4 : ∀ ps : List Pat, Q4 ps ≤ u5 ps
 | [] => by simp [Q4]
 | p :: ps => by have := as5 p; have := aw4 ps; simp only [Q4, u5]; omega
end
mutual
theorem ar4 : ∀ p : Tm, ah7 p ≤ a8 p
 | .mk _ _ _ ks cs => by have := ak7 ks; have := ax8 cs; simp only [ah7, a8]; omega
theorem ak7 : ∀ ps : List Tm, S5 ps ≤ d7 ps
 | [] => by simp [S5]
 | p :: ps => by have := ar4 p; have := ak7 ps; simp only [S5, d7]; omega
theorem bQ7 : ∀ p : Cs, aB1 p ≤ p9 p
 | .mk q t => by have := as5 q; have := ar4 t; simp only [aB1, p9]; omega
theorem ax8 : ∀ ps : List Cs, Z5 ps ≤ f6 ps
 | [] => by simp [Z5]
 | p :: ps => by have := bQ7 p; have := ax8 ps; simp only [Z5, f6]; omega
end
def LS (mn md : Int) (n dp : Nat) (d c : Int) (r : Bool × Int) : Prop := (c + n ≤ mn ∧ d + dp ≤ md + 1 → r = (false, c + n)) ∧ (¬ (c + n ≤ mn ∧ d + dp ≤ md + 1) → r.1 = true)
mutual
theorem be8 (mn md : Int) : ∀ (p : Pat) (d c : Int), LS mn md (l9 p) (ai4 p) d c (n4 mn md d c p)
 | .mk _ _ _ ks, d, c => by
  simp only [n4, l9, ai4]
  split
  ·exact ⟨fun h => by omega, fun _ => rfl⟩
  ·have := aR4 mn md ks (d + 1) (c + 1) (by omega) (by omega)
   unfold LS at *
   rw [show c + ((1 + u5 ks : Nat) : Int) = c + 1 + u5 ks by omega, show d + ((Q4 ks + 1 : Nat) : Int) = d + 1 + Q4 ks by omega];exact this
theorem aR4 (mn md : Int) : ∀ (ks : List Pat) (d c : Int), c ≤ mn → d ≤ md + 1 → LS mn md (u5 ks) (Q4 ks) d c (A2 mn md d c ks)
 | [], d, c, hc, hd => ⟨fun _ => by simp [A2, u5], fun h => by simp only [u5, Q4] at h; omega⟩
 | p :: ps, d, c, hc, hd => by
  obtain ⟨h1, h2⟩ := be8 mn md p d c
  simp only [A2, u5, Q4]
  by_cases h : c + l9 p ≤ mn ∧ d + ai4 p ≤ md + 1
  ·rw [h1 h]
   obtain ⟨h3, h4⟩ := aR4 mn md ps d (c + l9 p) h.1 hd
   refine ⟨fun h5 => ?_, fun h5 => ?_⟩
   ·show A2 mn md d (c + l9 p) ps = _
    rw [h3 (by omega)]; congr 1; omega
   ·exact h4 (by omega)
  ·have h3 := h2 h
   generalize n4 mn md d c p = r at h3
   obtain ⟨b, c'⟩ := r
   simp only at h3
   subst h3;exact ⟨fun h5 => by omega, fun _ => rfl⟩
end
mutual
theorem at2 (mn md : Int) : ∀ (p : Tm) (d c : Int), LS mn md (a8 p) (ah7 p) d c (m2 mn md d c p)
 | .mk _ _ _ ks cs, d, c => by
  simp only [m2, a8, ah7]
  split
  ·exact ⟨fun h => by omega, fun _ => rfl⟩
  ·obtain ⟨h1, h2⟩ := aR3 mn md ks (d + 1) (c + 1) (by omega) (by omega)
   by_cases h : c + 1 + d7 ks ≤ mn ∧ d + 1 + S5 ks ≤ md + 1
   ·rw [h1 h]
    obtain ⟨h3, h4⟩ := aR5 mn md cs (d + 1) (c + 1 + d7 ks) h.1 (by omega)
    refine ⟨fun h5 => ?_, fun h5 => ?_⟩
    ·show r9 mn md (d + 1) (c + 1 + d7 ks) cs = _
     rw [h3 (by omega)]; congr 1; omega
    ·exact h4 (by omega)
   ·have h3 := h2 h
    generalize o6 mn md (d + 1) (c + 1) ks = r at h3
    obtain ⟨b, c'⟩ := r
    simp only at h3
    subst h3;exact ⟨fun h5 => by omega, fun _ => rfl⟩
theorem aR3 (mn md : Int) : ∀ (ks : List Tm) (d c : Int), c ≤ mn → d ≤ md + 1 → LS mn md (d7 ks) (S5 ks) d c (o6 mn md d c ks)
 | [], d, c, hc, hd => ⟨fun _ => by simp [o6, d7], fun h => by simp only [d7, S5] at h; omega⟩
 | p :: ps, d, c, hc, hd => by
  obtain ⟨h1, h2⟩ := at2 mn md p d c
  simp only [o6, d7, S5]
  by_cases h : c + a8 p ≤ mn ∧ d + ah7 p ≤ md + 1
  ·rw [h1 h]
   obtain ⟨h3, h4⟩ := aR3 mn md ps d (c + a8 p) h.1 hd
   refine ⟨fun h5 => ?_, fun h5 => ?_⟩
   ·show o6 mn md d (c + a8 p) ps = _
    rw [h3 (by omega)]; congr 1; omega
   ·exact h4 (by omega)
  ·have h3 := h2 h
   generalize m2 mn md d c p = r at h3
   obtain ⟨b, c'⟩ := r
   simp only at h3
   subst h3;exact ⟨fun h5 => by omega, fun _ => rfl⟩
theorem bM5 (mn md : Int) : ∀ (p : Cs) (d c : Int), LS mn md (p9 p) (aB1 p) d c (G8 mn md d c p)
 | .mk q t, d, c => by
  obtain ⟨h1, h2⟩ := be8 mn md q d c
  simp only [G8, p9, aB1]
  have hp := m8 t
  by_cases h : c + l9 q ≤ mn ∧ d + ai4 q ≤ md + 1
  ·rw [h1 h]
   obtain ⟨h3, h4⟩ := at2 mn md t d (c + l9 q)
   refine ⟨fun h5 => ?_, fun h5 => ?_⟩
   ·show m2 mn md d (c + l9 q) t = _
    rw [h3 (by omega)]; congr 1; omega
   ·exact h4 (by omega)
  ·have h3 := h2 h
   generalize n4 mn md d c q = r at h3
   obtain ⟨b, c'⟩ := r
   simp only at h3
   subst h3;exact ⟨fun h5 => by omega, fun _ => rfl⟩
theorem aR5 (mn md : Int) : ∀ (ks : List Cs) (d c : Int), c ≤ mn → d ≤ md + 1 → LS mn md (f6 ks) (Z5 ks) d c (r9 mn md d c ks)
 | [], d, c, hc, hd => ⟨fun _ => by simp [r9, f6], fun h => by simp only [f6, Z5] at h; omega⟩
 | p :: ps, d, c, hc, hd => by
  obtain ⟨h1, h2⟩ := bM5 mn md p d c
  simp only [r9, f6, Z5]
  by_cases h : c + p9 p ≤ mn ∧ d + aB1 p ≤ md + 1
  ·rw [h1 h]
   obtain ⟨h3, h4⟩ := aR5 mn md ps d (c + p9 p) h.1 hd
   refine ⟨fun h5 => ?_, fun h5 => ?_⟩
   ·show r9 mn md d (c + p9 p) ps = _
    rw [h3 (by omega)]; congr 1; omega
   ·exact h4 (by omega)
  ·have h3 := h2 h
   generalize G8 mn md d c p = r at h3
   obtain ⟨b, c'⟩ := r
   simp only at h3
   subst h3;exact ⟨fun h5 => by omega, fun _ => rfl⟩
end
end
section
variable {G : List (Nat × TypeId × Pu)}
theorem bs7 : ∀ (N : Nat) (p : Pat), l9 p ≤ N → ∀ (t : Tm), a8 t < 2^30 → FCall Tryz.prog G 137 [.pu (v7 0 p), .pu (tmc 0 t)] (bW8 0 (p5 p t)) := by
 intro N
 induction N with
 | zero => intro p h; cases p; simp [l9] at h
 | succ N ih =>
 intro p hp t hN
 obtain ⟨k, n, r, ks⟩ := p
 obtain ⟨k', n', r', ks', cs'⟩ := t
 simp only [l9] at hp
 have hsz : 1 + d7 ks' + f6 cs' < 2^30 := by simpa only [a8] using hN
 have hlen := m4 ks
 have hlen' := f9 ks'
 refine Fq 90 Tryz.func137 ?_;intro w0 M ρ0 D0
 refine Tri.fact (i := 0) rfl (fun D w x h => W8 h) (fun hr => ?_);refine Tri.fact (i := 1) rfl (fun D w x h => ab7 h) (fun hr' => ?_)
 simp only [wfP, wfT] at hr hr'
 refine Y73 ?_;refine yB ?_;refine b8 [2, 3] ?_;refine Y84 ?_;refine Y24 ?_;refine Y2 ?_;refine Cq ?_ ?_
 ·intro h0
  have hf : p5 (.mk k n r ks) (.mk k' n' r' ks' cs') = ([.mk k' n' r' ks' cs'], true) := by simp at h0; simp [p5, h0]
  refine Y4 ?_;refine Dq (bK0 _ (.mk k' n' r' ks' cs') (Nat.le_refl _) hN) ?_;refine yZ ?_;refine yA ?_;refine Y25 ?_;rw [hf];exact Tri.ret ⟨.inr rfl, q8 rfl b4 (ToPu.imp (by repeat constructor)) b4 (VImp.refl _)⟩
 ·intro h0
  refine Y24 ?_;refine Y2 ?_;refine Cq ?_ ?_
  ·intro h1
   have hf : p5 (.mk k n r ks) (.mk k' n' r' ks' cs') = ([], k' == 2 && n' == n) := by simp at h1; simp [p5, h1, Tm.kind, Tm.num]
   refine Y24 ?_;refine Y39 ?_;refine Y53 ?_;refine yB ?_;refine yA ?_;refine Y42 ?_;rw [hf];exact Tri.ret ⟨.inr rfl, q8 rfl b4 (ToPu.imp (by repeat constructor)) b4 (VImp.refl _)⟩
  ·intro h1
   refine Y55 ?_;refine Y29 ?_;refine Y39 ?_;refine f7 zG (D4 SS (h := ag4 (hr'.1.trans hr.1.symm))) ?_;refine yO ?_;refine Y39 ?_;refine Y59 ?_;refine xC ?_;refine Y6 ?_;refine xC ?_;refine Y29 ?_;refine Y2 ?_;refine Cq ?_ ?_
   ·intro h2
    have hf : p5 (.mk k n r ks) (.mk k' n' r' ks' cs') = ([], false) := by
     rw [a9, f5] at h2
     simp only [beq_eq_false_iff_ne, ne_eq] at h0 h1
     simp only [p5, if_neg h0, if_neg h1]
     by_cases h3 : k = 3
     ·rw [if_pos h3]; subst h3; exact if_pos (by simpa [Tm.kind, Tm.num, Tm.ref, Tm.kids] using h2)
     ·rw [if_neg h3]
    refine aq5 ?_;rw [hf];exact Tri.ret ⟨.inr rfl, q8 rfl b4 (ToPu.imp (by repeat constructor)) b4 (VImp.refl _)⟩
   ·intro h2
    rw [a9, f5] at h2
    have h3 : k = 3 := by simp only [Bool.or_eq_false_iff, bne_eq_false_iff_eq] at h2; exact h2.1.1.1.1
    have hll : ks'.length = ks.length := by simp only [Bool.or_eq_false_iff, bne_eq_false_iff_eq] at h2; omega
    have hf : p5 (.mk k n r ks) (.mk k' n' r' ks' cs') = r8 ks ks' := by
     simp only [beq_eq_false_iff_ne, ne_eq] at h0 h1
     simp only [p5, if_neg h0, if_neg h1, if_pos h3]
     subst h3;exact if_neg (by simp only [Bool.not_eq_true]; simpa [Tm.kind, Tm.num, Tm.ref, Tm.kids] using h2)
    refine Tri.skip ?_;refine Y21 ?_;refine Y10 ?_;refine Tri.block (Tri.loopW (σ := {x : Nat × List Tm // r8 (ks.take x.1) (ks'.take x.1) = (x.2, true)}) (fun i => ⟨[(2, .ptr 2 [] 104), (3, .ptr 3 [] 32), (6, .ow 0 32 (l8 0 i.1.2)), (7, iv .i64 i.1.1)], [(2, .var 104 (.pu (v7 0 (.mk k n r ks)))), (3, .var 32 (.pu (tmc 0 (.mk k' n' r' ks' cs'))))]⟩) (fun i => ks.length - i.1.1) ⟨(0, []), by simp [r8]⟩ ?_ ?_ (fun i => ?_))
    ·exact zk2
    ·exact zk2
    refine Y93 ?_;refine Cq ?_ ?_
    ·intro h3
     have hi : i.1.1 < ks.length := by rw [f5] at h3; simpa using h3
     have hi' : i.1.1 < ks'.length := by omega
     have htk := ap8 hi hi'
     rw [i.2] at htk
     have hsp := q9 hi
     have hst := o8 (List.getElem_mem hi')
     refine Y90 ?_;refine b5 (g9 SS (h0 := by omega) (hp := D9 hi)) ?_;refine yL ?_;refine Y68 ?_;refine b5 (g9 SS (h0 := by omega) (hp := q7 hi')) ?_;refine yL ?_;refine Dq (ih ks[i.1.1] (by omega) ks'[i.1.1] (by omega)) ?_;refine Y28 ?_;refine yA ?_;refine av1 ?_;refine Y1 ?_;refine Y98 ?_;refine Cq ?_ ?_
     ·intro h4
      have hf2 : r8 ks ks' = ([], false) := ap9 (i := i.1.1 + 1) (by
       rw [htk]; simp at h4; simp [J1, h4])
      rw [hf2] at hf
      refine aq5 ?_;rw [hf];exact Tri.ret ⟨.inr rfl, q8 rfl b4 (ToPu.imp (by repeat constructor)) b4 (VImp.refl _)⟩
     ·intro h4
      have hnext : r8 (ks.take (i.1.1 + 1)) (ks'.take (i.1.1 + 1)) = (i.1.2 ++ (p5 ks[i.1.1] ks'[i.1.1]).1, true) := by
       rw [htk]; simp at h4; simp [J1, h4]
      refine Tri.skip ?_;refine Y17 ?_;refine aH4 6 ?_ ?_
      ·have h1 := aE7 (ks.take i.1.1) (ks'.take i.1.1)
       have h2 := ap7 ks[i.1.1] ks'[i.1.1]
       have h3 := aa2 (ks := ks') (i := i.1.1)
       rw [i.2] at h1
       simp only [a9] at h1 ⊢
       omega
      refine Y8 ?_;refine Y40 ?_
      refine ⟨⟨(i.1.1 + 1, i.1.2 ++ (p5 ks[i.1.1] ks'[i.1.1]).1), hnext⟩, by show ks.length - (i.1.1 + 1) < ks.length - i.1.1; omega, i9 ?_ ?_⟩
      ·repeat (first | exact SubE.nil | refine SubE.cons rfl (by first | rfl | (rw [b7 (by omega) (by omega)]; rfl) | (simp only [l6, List.map_append])) ?_)
      ·repeat (first | exact SubH.nil | refine SubH.cons rfl (by first | rfl | (rw [b7 (by omega) (by omega)]; rfl) | (simp only [l6, List.map_append])) ?_)
    ·intro h3
     have hf2 : r8 ks ks' = (i.1.2, true) := by
      have := i.2
      rwa [List.take_of_length_le (by rw [f5] at h3; simp at h3; omega), List.take_of_length_le (by rw [f5] at h3; simp at h3; omega)] at this
     rw [hf2] at hf
     refine Tri.exit ?_;refine Y1 ?_;refine yA ?_;refine Y25 ?_;rw [hf];exact Tri.ret ⟨.inr rfl, q8 rfl b4 (ToPu.imp (by repeat constructor)) b4 (VImp.refl _)⟩
end
section
variable {G : List (Nat × TypeId × Pu)}
mutual
def rgT : Tm → Prop
 | .mk _ n _ ks cs => (-2^63 ≤ n ∧ n < 2^63) ∧ rgK ks ∧ rgC cs
def rgK : List Tm → Prop
 | [] => True
 | t :: ts => rgT t ∧ rgK ts
def rgC : List Cs → Prop
 | [] => True
 | c :: cs => rgS c ∧ rgC cs
def rgS : Cs → Prop
 | .mk _ t => rgT t
end
end
section
variable {H : Type}
theorem ck9 {d : DataW H} {l : List (DataW H)} (h : d ∈ l) : Rows.uptoBulk d ≤ Rows.uptoBulkAll l := by
 induction l with
 | nil => cases h
 | cons x r ih =>
  simp only [Rows.uptoBulkAll]
  cases List.mem_cons.1 h with
  | inl e => subst e; omega
  | inr e => have := ih e; omega
theorem bQ8 {α : Type} (sz : α → Nat) (tot : List α → Nat) (h0 : tot [] = 0) (h1 : ∀ a l, tot (a :: l) = sz a + tot l) : ∀ {ds : List (DataW H)} {l : List α}, l.length = ds.length → (∀ (i : Nat) (d : DataW H) (a : α), ds[i]? = some d → l[i]? = some a → sz a ≤ Rows.uptoBulk d) → tot l ≤ Rows.uptoBulkAll ds
 | [], l, hl, _ => by
  have : l = [] := List.length_eq_zero_iff.1 hl
  subst this; rw [h0]; omega
 | d :: ds, [], hl, _ => by simp at hl
 | d :: ds, a :: l, hl, h => by
  have h2 := h 0 d a rfl rfl
  have h3 := bQ8 sz tot h0 h1 (ds := ds) (l := l) (by simpa using hl) fun i d' a' hi hj => h (i + 1) d' a' (by simpa using hi) (by simpa using hj)
  rw [h1]
  simp only [Rows.uptoBulkAll]
  omega
end
section
open Go.ChangeShapes Go.WideShapes Go.ChangeAt Go.RowKit
def bx8 (l : List (Nat × Int)) (W : World) : Prop := ∀ g n, (g, n) ∈ l → ∀ j u, ((j5 n).map fun z => Value.int .u8 z)[j]? = some u → W.cell? ⟨g, j, none⟩ = some u
theorem O1 {W : World} {name : String} {n : Int} {g : Nat} {l : List (String × DataW Unit)} (h : laidMetH Tryz.prog l W)
  (hl : l.filter (fun x => x.1 == name) = [(name, Lib.tabData .u8 (j5 n))]) (hg : Tryz.prog.globalNamed name = some g) (hty : (Tryz.prog.globals[g]?).map (·.type) = some 28) :
  ∀ j u, ((j5 n).map fun z => Value.int .u8 z)[j]? = some u → W.cell? ⟨g, j, none⟩ = some u := by
 have h1 := h.filter (fun x => x.1 == name)
 rw [hl] at h1
 have h2 : laidMet Tryz.prog [(name, Lib.tabData .u8 (j5 n))] W := by
  have := (laidMetH_iff.1 h1).1
  simpa [Lib.tabData, DataW.handleName?] using this
 have h3 := Lib.tabIs_of_head (t := 28) (e := 5) (n := 32) hg hty (by kernel_rfl) (by kernel_rfl) (by kernel_rfl) (by kernel_rfl) h2
 intro j u hj
 have := World.var?_cell hg h3 j
 rw [this, List.getElem?_toArray];exact hj
theorem tyU8 {z : Int} : tyP Tryz.prog 5 (.leaf (.int .u8 z)) = true := (by kernel_rfl : (l7 Tryz.prog 5).isNone = true)
theorem ci1 {r : List Int} : tyV Tryz.prog 28 (.pu (l4 r)) = true := (by kernel_rfl : ((l7 Tryz.prog 28).isSome && Tryz.prog.underlyingId 28 == Tryz.prog.underlyingId 28) = true)
theorem cf6 {n : Int} : ((j5 n).map fun z => Value.int .u8 z).length = Tryz.prog.cellsOf 28 := (by simp [j5] : ((j5 n).map fun z => Value.int .u8 z).length = 32).trans (by kernel_rfl)
def bytL (l : List Int) : List Pu := l.map fun x => .leaf (.int .u8 x)
theorem bL1 {D : Nat → Nat → Prop} {w : World} (zs : List Int) : PRs Tryz.prog D w (List.replicate zs.length (1, 5)) (bytL zs) (zs.map fun z => Value.int .u8 z) := by
 induction zs with
 | nil => exact .nil
 | cons z zs ih => exact PRs.cons (x := [.int .u8 z]) (.leaf rfl) rfl tyU8 ih
def bQ6 (W : World) : Cfg := { D := fun b _ => b < W.heap.size, ρ := fun _ => none, own := fun _ => none }
def gOf (l : List (Nat × Int)) : List (Nat × TypeId × Pu) := l.map fun x => (x.1, 28, l4 (j5 x.2))
theorem bW4 {l : List (Nat × Int)} {g : Nat} {T : TypeId} {p : Pu} (h : get (gOf l) g = some (T, p)) : ∃ n, (g, n) ∈ l ∧ T = 28 ∧ p = l4 (j5 n) := by
 induction l with
 | nil => cases h
 | cons x l ih =>
  obtain ⟨i, n⟩ := x
  simp only [gOf, List.map_cons, m1] at h
  split at h
  ·rename_i e; subst e; cases h; exact ⟨n, by simp, rfl, rfl⟩
  ·obtain ⟨m, h1, h2⟩ := ih h
   exact ⟨m, by simp [h1], h2⟩
theorem cj8 {l : List (Nat × Int)} {W : World} (h : bx8 l W) : GL Tryz.prog (gOf l) (bQ6 W) W := by
 intro g T p hg
 obtain ⟨n, hm, rfl, rfl⟩ := bW4 hg
 have hT := h g n hm
 refine VR.pp (x := (j5 n).map fun z => Value.int .u8 z) (.pu (PR.agg (cs := List.replicate 32 (1, 5)) (by kernel_rfl) (bL1 (j5 n)))) ci1 cf6 fun j u hj => ⟨by rw [Nat.zero_add]; exact hT j u hj, ?_⟩
 ·have := hT j u hj
  show g < W.heap.size
  refine Nat.lt_of_not_le fun hb => ?_
  simp only [World.cell?, Array.getElem?_eq_none hb] at this
  cases this
theorem bW5 {l : List (Nat × Int)} {W : World} (h : bx8 l W) : Frag Tryz.prog (gOf l) (bQ6 W) W [] [] where
 heap := fun l ob h => by cases h
 inj := fun l l' b R R' ob ob' h => by cases h
 dObj := fun l ob b R o h => by cases h
 dLt := fun b o h => h
 own := fun b q k h => by cases h
 gl := cj8 h
theorem bY0 {l : List (Nat × Int)} {W : World} (hT : bx8 l W) {f : FuncId} {args : List PV} {xs : Array Value} (hc : FCall Tryz.prog (gOf l) f args (bv true)) (hx : VFs Tryz.prog (bQ6 W) W args xs.toList) :
  Calls Tryz.prog f xs W fun e W' => e = .returned (.bool true) ∧ Below W.heap.size W W' := by
 refine (hc (bQ6 W) W _ (bW5 hT) hx).mono fun e W' ⟨y, C', he, A⟩ => ?_
 subst he
 have hM : ∀ b, ¬ M5 (bQ6 W) [] b := fun b hb => by
  rcases hb with ⟨l, ob, R, h1, _⟩ | ⟨l, p, k, ob, h1, _⟩ <;> cases h1
 refine ⟨?_, ⟨A.os, A.tape, A.output, A.size, fun b hb => A.block b hb (hM b)⟩⟩
 cases A.val with
 | one h hs =>
  have h1 := h.pu_inv
  generalize hc : y.cells.toList = c at h1
  cases h1
  cases y <;> simp_all [Value.cells, j1, PV.isAgg]
theorem cm0 {a b : Bool} (h1 : a = true) (h2 : b = true) : (a && b) = true := by rw [h1, h2]; rfl
theorem undB : Tryz.prog.underlying 4 = some .bool := by kernel_rfl
section
variable {H : Type} {enc : TypeId × Value → H} {W : World}
end
end
section
variable {G : List (Nat × TypeId × Pu)}
abbrev gcO (c : Int) : List (Nat × Ob) := [(3, .var 3 (iv .i64 c))]
abbrev gpV : PV := .fn (.func 119) [] [.ptr 3 [] 3, .ptr 4 [] 185]
abbrev gtV : PV := .fn (.func 121) [] [.ptr 3 [] 3, .ptr 5 [] 45, .ptr 4 [] 185]
abbrev gcV : PV := .fn (.func 124) [] [.ptr 4 [] 185, .ptr 5 [] 45]
abbrev gpO : List (Nat × Ob) := [(4, .var 185 gpV)]
abbrev gtO : List (Nat × Ob) := [(4, .var 185 gpV), (5, .var 45 gtV)]
abbrev MD : Int := 1152921504606846976
theorem gp_c : ∀ (N : Nat) (p : Pat), l9 p ≤ N → N < 2^40 → ∀ (d c : Int), 0 ≤ c ∧ c ≤ 400 → 0 ≤ d ∧ d + N ≤ 2^50 →
  HCall Tryz.prog G 119 [.pu (v7 0 p), .ptr 3 [] 3, .ptr 4 [] 185] gpO (gcO c) (bv (n4 400 MD d c p).1) (gcO (n4 400 MD d c p).2) [] := by
 intro N
 induction N with
 | zero => intro p h; cases p; simp [l9] at h
 | succ N ih =>
 intro p hp hN d c hc hd
 obtain ⟨k, n, r, ks⟩ := p
 simp only [l9] at hp
 have hlen := m4 ks
 have key : c + 1 ≤ 400 → ∃ r, r.isSome = (A2 400 MD (d + 1) (c + 1) ks).1 ∧ AnyC Tryz.prog G 119 [] [.ptr 3 [] 3, .ptr 4 [] 185] gpO (u6 0 ks) (gcO (c + 1)) r (gcO (A2 400 MD (d + 1) (c + 1) ks).2) := fun hc' => by
  rw [al8, t9];refine AnyC.state (v7 0) (n4 400 MD (d + 1)) gcO (fun c => 0 ≤ c ∧ c ≤ 400) (fun _ => rfl) ks (fun a ha c hc => ?_) (c + 1) ⟨by omega, hc'⟩
  have hb := aa9 (mn := 400) (md := MD) a (d + 1) c hc.2
  exact ⟨ih a (by have := aw3 ha; omega) (by omega) (d + 1) c hc (by omega), fun e => ⟨by have := hb.1; omega, hb.2.2 e⟩⟩
 refine HCall.of_triD tbl 15 [3, 4] Tryz.func119 rfl rfl rfl fun w0 M ρ0 D0 => ?_
 by_cases hcut : 400 < c + 1
 ·have e : n4 400 MD d c (.mk k n r ks) = (true, c + 1) := by simp only [n4]; rw [if_pos (.inl hcut)]
  rw [e, ← b7 (n := c + 1) (by omega) (by omega)]
  have hb0 : decide (IntKind.i64.wrap (c + 1) > 400) = true := by rw [b7 (by omega) (by omega)]; simp; omega
  refine yR ?_;refine p7 SS 31 ?_;refine yB ?_;refine b8 [31] ?_;refine Y4 ?_;refine yI ?_;refine Y16 ?_;refine Y4 ?_;refine yI ?_;refine Y12 ?_;refine xL ?_;refine G0 zG (f := 120) (args := [.pu (.sl 0 104 (u6 0 ks)), gpV]) (HR := []) (H := []) (H' := []) (v := bv false) (fun e => by simp [hb0] at e) (fun _ => .nil) ?_;refine Y79 ?_;refine Rqz ?_;exact m0 (by rw [hb0]; rfl)
 ·obtain ⟨r1, hr1, hA⟩ := key (by omega)
  have e : n4 400 MD d c (.mk k n r ks) = A2 400 MD (d + 1) (c + 1) ks := by simp only [n4]; rw [if_neg (by simp only [MD]; omega)]
  have hb0 : decide (IntKind.i64.wrap (c + 1) > 400) = false := by rw [b7 (by omega) (by omega)]; simp; omega
  rw [e]
  generalize A2 400 MD (d + 1) (c + 1) ks = q1 at hr1 hA ⊢
  obtain ⟨b1, c1⟩ := q1
  simp only at hr1 hA ⊢
  rw [← b7 (n := c + 1) (by omega) (by omega)] at hA
  refine yR ?_;refine p7 SS 31 ?_;refine yB ?_;refine b8 [31] ?_;refine Y4 ?_;refine yI ?_;refine Y16 ?_;refine Y4 ?_;refine yI ?_;refine Y12 ?_;refine xL ?_;refine G0 zG (f := 120) (args := [.pu (.sl 0 104 (u6 0 ks)), gpV]) (HR := gpO) (H := gcO (IntKind.i64.wrap (c + 1))) (H' := gcO c1) (v := bv b1) (fun _ => hr1 ▸ aM6 (lo := 0) gpV (by rw [f5]; omega) hA) (fun e => by simp [hb0] at e) ?_;refine Y79 ?_;refine Rqz ?_;exact m0 (by rw [hb0]; rfl)
theorem gc_c (p : Pat) (t : Tm) (d c : Int) (hc : 0 ≤ c ∧ c ≤ 400) (hd : 0 ≤ d ∧ d + l9 p ≤ 2^50) (hpz : l9 p < 2^40)
  (h2 : (n4 400 MD d c p).1 = false → HCall Tryz.prog G 121 [.pu (tmc 0 t), .ptr 3 [] 3, .ptr 5 [] 45, .ptr 4 [] 185] gtO (gcO (n4 400 MD d c p).2) (bv (m2 400 MD d (n4 400 MD d c p).2 t).1) (gcO (m2 400 MD d (n4 400 MD d c p).2 t).2) []) :
  HCall Tryz.prog G 124 [.pu (J3 0 (.mk p t)), .ptr 4 [] 185, .ptr 5 [] 45] gtO (gcO c) (bv (G8 400 MD d c (.mk p t)).1) (gcO (G8 400 MD d c (.mk p t)).2) [] := by
 have h := gp_c (G := G) _ p (Nat.le_refl _) hpz d c hc hd
 rw [aR8]
 generalize hb1 : n4 400 MD d c p = r1 at h h2 ⊢
 obtain ⟨b1, c1⟩ := r1
 simp only at h h2 ⊢
 refine HCall.of_triD tbl 15 [3, 4, 5] Tryz.func124 rfl rfl rfl fun w0 M ρ0 D0 => ?_
 refine yR ?_;refine p7 SS 31 ?_;refine yB ?_;refine b8 [31] ?_;refine Y4 ?_;refine Y5 ?_;refine B7 (h) ?_;refine Y37 ?_;refine Y6 ?_;refine G0 zG (f := 121) (args := [.pu (tmc 0 t), .ptr 3 [] 3, .ptr 5 [] 45, .ptr 4 [] 185]) (HR := gtO) (H := gcO c1) (H' := gcO (if b1 = true then c1 else (m2 400 MD d c1 t).2)) (v := bv (m2 400 MD d c1 t).1) (fun e => ?_) (fun e => ?_) ?_
 ·have e' : b1 = false := by simpa using e
  have := h2 e'
  simpa [e'] using this
 ·have e' : b1 = true := by simpa using e
  exact .cons rfl (by simp [e']) .nil
 refine Y79 ?_;refine Rqz ?_;exact VImp.refl _
theorem bO5 (d c k n : Int) (r : List Int) (ks : List Tm) (cs : List Cs) (h : ¬ (400 < c + 1 ∨ MD < d)) : m2 400 MD d c (.mk k n r ks cs) = ((o6 400 MD (d + 1) (c + 1) ks).1 || (r9 400 MD (d + 1) (o6 400 MD (d + 1) (c + 1) ks).2 cs).1, if (o6 400 MD (d + 1) (c + 1) ks).1 then (o6 400 MD (d + 1) (c + 1) ks).2 else (r9 400 MD (d + 1) (o6 400 MD (d + 1) (c + 1) ks).2 cs).2) := by
 simp only [m2, if_neg h]
 rcases o6 400 MD (d + 1) (c + 1) ks with ⟨b, c'⟩
 cases b <;> simp
set_option maxHeartbeats 1000000 in
theorem gt_c : ∀ (N : Nat) (t : Tm), a8 t ≤ N → N < 2^40 → ∀ (d c : Int), 0 ≤ c ∧ c ≤ 400 → 0 ≤ d ∧ d + N ≤ 2^50 →
  HCall Tryz.prog G 121 [.pu (tmc 0 t), .ptr 3 [] 3, .ptr 5 [] 45, .ptr 4 [] 185] gtO (gcO c) (bv (m2 400 MD d c t).1) (gcO (m2 400 MD d c t).2) [] := by
 intro N
 induction N with
 | zero => intro t h; have := m8 t; omega
 | succ N ih =>
 intro t hp hN d c hc hd
 obtain ⟨k, n, r, ks, cs⟩ := t
 simp only [a8] at hp
 have hlen := f9 ks
 have hlenc := m5 cs
 have aB7 : c + 1 ≤ 400 → ∃ r, r.isSome = (o6 400 MD (d + 1) (c + 1) ks).1 ∧ AnyC Tryz.prog G 121 [] [.ptr 3 [] 3, .ptr 5 [] 45, .ptr 4 [] 185] gtO (l8 0 ks) (gcO (c + 1)) r (gcO (o6 400 MD (d + 1) (c + 1) ks).2) := fun hc' => by
  rw [al6, l6];refine AnyC.state (tmc 0) (m2 400 MD (d + 1)) gcO (fun c => 0 ≤ c ∧ c ≤ 400) (fun _ => rfl) ks (fun a ha c hc => ?_) (c + 1) ⟨by omega, hc'⟩
  have hb := al7 (mn := 400) (md := MD) a (d + 1) c hc.2
  exact ⟨ih a (by have := o8 ha; omega) (by omega) (d + 1) c hc (by omega), fun e => ⟨by have := hb.1; omega, hb.2.2 e⟩⟩
 have keyC : ∀ c1, 0 ≤ c1 ∧ c1 ≤ 400 → ∃ r, r.isSome = (r9 400 MD (d + 1) c1 cs).1 ∧ AnyC Tryz.prog G 124 [] [.ptr 4 [] 185, .ptr 5 [] 45] gtO (z8 0 cs) (gcO c1) r (gcO (r9 400 MD (d + 1) c1 cs).2) := fun c1 hc1 => by
  rw [al9, A9];refine AnyC.state (J3 0) (G8 400 MD (d + 1)) gcO (fun c => 0 ≤ c ∧ c ≤ 400) (fun _ => rfl) cs (fun a ha c hc => ?_) c1 hc1
  have hb := aD7 (mn := 400) (md := MD) a (d + 1) c hc.2
  have hsz := B0 ha
  obtain ⟨q, b⟩ := a
  simp only [p9] at hsz
  have hp1 := aa9 (mn := 400) (md := MD) q (d + 1) c hc.2
  have htp := m8 b
  have hqp := al4 q
  exact ⟨gc_c q b (d + 1) c hc (by omega) (by omega) (fun e => ih b (by omega) (by omega) (d + 1) _ ⟨by have := hp1.1; omega, hp1.2.2 e⟩ (by omega)), fun e => ⟨by have := hb.1; omega, hb.2.2 e⟩⟩
 refine HCall.of_triD tbl 22 [3, 4, 5] Tryz.func121 rfl rfl rfl fun w0 M ρ0 D0 => ?_
 by_cases hcut : 400 < c + 1
 ·have e : m2 400 MD d c (.mk k n r ks cs) = (true, c + 1) := by simp only [m2]; rw [if_pos (.inl hcut)]
  rw [e, ← b7 (n := c + 1) (by omega) (by omega)]
  have hb0 : decide (IntKind.i64.wrap (c + 1) > 400) = true := by rw [b7 (by omega) (by omega)]; simp; omega
  refine yR ?_;refine p7 SS 31 ?_;refine yB ?_;refine b8 [31] ?_;refine Y4 ?_;refine yI ?_;refine Y16 ?_;refine Y4 ?_;refine yI ?_;refine Y12 ?_;refine xL ?_;refine G0 zG (f := 122) (args := [.pu (.sl 0 32 (l8 0 ks)), gtV]) (HR := []) (H := []) (H' := []) (v := bv false) (fun e => by simp [hb0] at e) (fun _ => .nil) ?_;refine yO ?_;refine Y12 ?_;refine f7 zG (J7 SS) ?_;refine G0 zG (f := 123) (args := [.pu (.sl 0 106 (z8 0 cs)), gcV]) (HR := []) (H := []) (H' := []) (v := bv false) (fun e => by simp [hb0] at e) (fun _ => .nil) ?_;refine Y79 ?_;refine Rqz ?_;exact m0 (by rw [hb0]; rfl)
 ·obtain ⟨r1, hr1, hA⟩ := aB7 (by omega)
  have hb1 := ai7 (mn := 400) (md := MD) ks (d + 1) (c + 1) (by omega)
  have hb0 : decide (IntKind.i64.wrap (c + 1) > 400) = false := by rw [b7 (by omega) (by omega)]; simp; omega
  rw [bO5 d c k n r ks cs (by simp only [MD]; omega)]
  generalize o6 400 MD (d + 1) (c + 1) ks = q1 at hr1 hA hb1 ⊢
  obtain ⟨b1, c1⟩ := q1
  obtain ⟨hb1, _, hb2⟩ := hb1
  simp only at hr1 hA hb1 hb2 ⊢
  rw [← b7 (n := c + 1) (by omega) (by omega)] at hA
  have hC : b1 = false → ∃ r2 : Option Nat, r2.isSome = (r9 400 MD (d + 1) c1 cs).1 ∧ _ := fun e => keyC c1 ⟨by omega, hb2 e⟩
  refine yR ?_;refine p7 SS 31 ?_;refine yB ?_;refine b8 [31] ?_;refine Y4 ?_;refine yI ?_;refine Y16 ?_;refine Y4 ?_;refine yI ?_;refine Y12 ?_;refine xL ?_;refine G0 zG (f := 122) (args := [.pu (.sl 0 32 (l8 0 ks)), gtV]) (HR := gtO) (H := gcO (IntKind.i64.wrap (c + 1))) (H' := gcO c1) (v := bv b1) (fun _ => hr1 ▸ aE9 (lo := 0) gtV (by rw [a9]; omega) hA) (fun e => by simp [hb0] at e) ?_;refine yO ?_;refine Y12 ?_;refine f7 zG (J7 SS) ?_;refine G0 zG (f := 123) (args := [.pu (.sl 0 106 (z8 0 cs)), gcV]) (HR := gtO) (H := gcO c1) (H' := gcO (if b1 = true then c1 else (r9 400 MD (d + 1) c1 cs).2)) (v := bv (r9 400 MD (d + 1) c1 cs).1) (fun e => ?_) (fun e => ?_) ?_
  ·have e' : b1 = false := by simpa [hb0] using e
   obtain ⟨r2, hr2, hA2⟩ := hC e'
   simp only [e', Bool.false_eq_true, if_false]
   exact hr2 ▸ aX7 (lo := 0) gcV (by rw [j3]; omega) hA2
  ·have e' : b1 = true := by simpa [hb0] using e
   exact .cons rfl (by simp [e']) .nil
  refine Y79 ?_;refine Rqz ?_;exact m0 (by rw [hb0]; rfl)
def X8 (t : Tm) : Bool := (m2 400 MD 0 0 t).1
theorem af6 {t : Tm} (h : X8 t = false) : a8 t ≤ 400 := by
 obtain ⟨_, h2⟩ := at2 400 MD t 0 0
 unfold X8 at h
 refine Nat.le_of_not_lt fun hlt => ?_
 have := h2 (by omega)
 rw [h] at this; cases this
theorem aE4 (t : Tm) (hN : a8 t < 2^40) : FCall Tryz.prog G 52 [.pu (tmc 0 t)] (bv (X8 t)) := by
 refine Fq 11 Tryz.func52 ?_;intro w0 M ρ0 D0
 refine Y85 ?_;refine yR ?_;refine b9 SS 3 ?_;refine yS ?_;refine b8 [3] ?_;refine yR ?_;refine b9 SS 4 ?_;refine b8 [4] ?_;refine Y38 ?_;refine Y16 ?_;refine yR ?_;refine b9 SS 5 ?_;refine b8 [5] ?_;refine Y38 ?_;refine Y16 ?_;refine Y22 ?_;refine B7 (gt_c _ t (Nat.le_refl _) hN 0 0 (by omega) (by omega)) ?_;refine Y2 ?_;refine Rq ?_;exact VImp.refl _
end
section
variable {G : List (Nat × TypeId × Pu)}
theorem ai2 (n lo hi : Int) : FCall Tryz.prog G 212 [iv .i64 n, iv .i64 lo, iv .i64 hi] (bv (J0 n lo hi)) := by
 refine Fq 15 Tryz.func212 ?_;intro w0 M ρ0 D0
 refine Y21 ?_;refine Y62 ?_;refine ay7 ?_;refine Y79 ?_;refine Rq ?_;exact VImp.refl _
theorem bA4 (k : Int) : FCall Tryz.prog G 213 [iv .i64 k] (bv (E7 k)) := by
 refine Fq 25 Tryz.func213 ?_;intro w0 M ρ0 D0
 refine Y21 ?_;refine Y58 ?_;refine yO ?_;refine Y35 ?_;refine yO ?_;refine Y35 ?_;refine yO ?_;refine Y35 ?_;refine yO ?_;refine Y35 ?_;refine Y79 ?_;refine Rq ?_;exact m0 (by unfold E7; ac_rfl)
theorem bA3 (k : Int) : FCall Tryz.prog G 214 [iv .i64 k] (bv (G1 k)) := by
 refine Fq 17 Tryz.func214 ?_;intro w0 M ρ0 D0
 refine Y21 ?_;refine Y58 ?_;refine yO ?_;refine Y35 ?_;refine yO ?_;refine Y35 ?_;refine Y79 ?_;refine Rq ?_;exact m0 (by unfold G1; ac_rfl)
def I9 (k : Int) : Int × Int := if k == 3 || k == 9 || k == 11 then (1, 1) else if k == 4 || k == 5 || k == 10 then (2, 2) else if k == 8 then (0, 4) else if k == 12 then (2, 10) else (0, 0)
theorem bU2 (k : Int) : FCall Tryz.prog G 215 [iv .i64 k] (.tup [iv .i64 (I9 k).1, iv .i64 (I9 k).2]) := by
 refine Fq 17 Tryz.func215 ?_;intro w0 M ρ0 D0
 refine Y3 ?_;refine yB ?_;refine B5 ?_;refine Y1 ?_;refine Y0 ?_;refine Tri.block ?_;refine Y18 ?_;refine Tri.cutT ⟨[(4, iv .i64 k), (5, bv (k == 3 || k == 9 || k == 11))], []⟩ ?_ ?_
 ·skip
  refine tQ ?_;refine Cq ?_ ?_
  ·intro h0
   refine Tri.skip ?_;refine i9 ?_ ?_
   ·exact zk0
   ·exact zk1
  ·intro h0
   refine Y18 ?_;refine Cq ?_ ?_
   ·intro h1
    refine Tri.skip ?_;refine i9 ?_ ?_
    ·exact zk0
    ·exact zk1
   ·intro h1
    refine Y9 ?_;refine Y8 ?_;refine i9 ?_ ?_
    ·exact zk0
    ·exact zk1
 ·skip
  refine tQ ?_;refine Cq ?_ ?_
  ·intro h2
   refine aq5 ?_;exact Tri.ret ⟨.inr rfl, q8 rfl b4 (c7 (by simp_all [I9])) b4 (c7 (by simp_all [I9]))⟩
  ·intro h2
   refine Y18 ?_;refine Tri.cutT ⟨[(4, iv .i64 k), (9, bv (k == 4 || k == 5 || k == 10))], []⟩ ?_ ?_
   ·skip
    refine tQ ?_;refine Cq ?_ ?_
    ·intro h3
     refine Tri.skip ?_;refine i9 ?_ ?_
     ·exact zk0
     ·exact zk1
    ·intro h3
     refine Y18 ?_;refine Cq ?_ ?_
     ·intro h4
      refine Tri.skip ?_;refine i9 ?_ ?_
      ·exact zk0
      ·exact zk1
     ·intro h4
      refine Y9 ?_;refine Y8 ?_;refine i9 ?_ ?_
      ·exact zk0
      ·exact zk1
   ·skip
    refine tQ ?_;refine Cq ?_ ?_
    ·intro h5
     refine aq5 ?_;exact Tri.ret ⟨.inr rfl, q8 rfl b4 (c7 (by simp_all [I9])) b4 (c7 (by simp_all [I9]))⟩
    ·intro h5
     refine Y18 ?_;refine Cq ?_ ?_
     ·intro h6
      refine aq5 ?_;exact Tri.ret ⟨.inr rfl, q8 rfl b4 (c7 (by simp_all [I9])) b4 (c7 (by simp_all [I9]))⟩
     ·intro h6
      refine Y18 ?_;refine Cq ?_ ?_
      ·intro h7
       refine aq5 ?_;exact Tri.ret ⟨.inr rfl, q8 rfl b4 (c7 (by simp_all [I9])) b4 (c7 (by simp_all [I9]))⟩
      ·intro h7
       refine Tri.skip ?_;refine aq5 ?_;exact Tri.ret ⟨.inr rfl, q8 rfl b4 (c7 (by simp_all [I9])) b4 (c7 (by simp_all [I9]))⟩
theorem aV1 (kind kid : Int) : FCall Tryz.prog G 217 [iv .i64 kind, iv .i64 kid] (iv .i64 (j8 kind kid)) := by
 refine Fq 27 Tryz.func217 ?_;intro w0 M ρ0 D0
 refine Y10 ?_;refine Tri.block ?_;refine Y76 ?_;refine Cq ?_ ?_
 ·intro h0
  refine Y15 ?_;refine Cq ?_ ?_
  ·intro h2
   refine Y10 ?_;refine Rq ?_;exact c7 (by simp_all [j8]; try omega)
  ·intro h2
   refine aC4 ?_;refine Cq ?_ ?_
   ·intro h3
    refine Y10 ?_;refine Rq ?_;exact c7 (by simp_all [j8]; try omega)
   ·intro h3
    refine Y45 ?_;refine Rq ?_;exact c7 (by simp_all [j8]; try omega)
 ·intro h0
  refine aC4 ?_;refine Cq ?_ ?_
  ·intro h1
   refine Y15 ?_;refine Cq ?_ ?_
   ·intro h2
    refine Y10 ?_;refine Rq ?_;exact c7 (by simp_all [j8]; try omega)
   ·intro h2
    refine aC4 ?_;refine Cq ?_ ?_
    ·intro h3
     refine Y10 ?_;refine Rq ?_;exact c7 (by simp_all [j8]; try omega)
    ·intro h3
     refine Y45 ?_;refine Rq ?_;exact c7 (by simp_all [j8]; try omega)
  ·intro h1
   refine aC4 ?_;refine Cq ?_ ?_
   ·intro h2
    refine Y10 ?_;refine Rq ?_;exact c7 (by simp_all [j8]; try omega)
   ·intro h2
    refine aC4 ?_;refine Cq ?_ ?_
    ·intro h3
     refine Y10 ?_;refine Rq ?_;exact c7 (by simp_all [j8]; try omega)
    ·intro h3
     refine Y45 ?_;refine Rq ?_;exact c7 (by simp_all [j8]; try omega)
theorem aI3 : ∀ (N : Nat) (p : Pat), l9 p ≤ N → N < 2^40 → FCall Tryz.prog G 218 [.pu (v7 0 p)] (iv .i64 (m7 p)) := by
 intro N
 induction N with
 | zero => intro p h; cases p; simp [l9] at h
 | succ N ih =>
 intro p hp hN
 obtain ⟨k, n, r, ks⟩ := p
 simp only [l9] at hp
 have hlen := m4 ks
 refine Fq 24 Tryz.func218 ?_;intro w0 M ρ0 D0
 refine Y85 ?_;refine Y24 ?_;refine Y0 ?_;refine Cq ?_ ?_
 ·intro h0
  refine Y10 ?_;refine Rq ?_;exact c7 (by simp_all [m7])
 ·intro h0
  refine Tri.skip ?_;refine Y21 ?_;refine Y10 ?_;refine Tri.block (Tri.loopW (σ := Nat) (fun i => ⟨[(1, .ptr 1 [] 104), (4, iv .i64 i), (3, iv .i64 (J5 (ks.take i)))], [(1, .var 104 (.pu (v7 0 (.mk k n r ks))))]⟩) (fun i => ks.length - i) 0 ?_ ?_ (fun i => ?_))
  ·exact zW
  ·exact zW
  refine Y93 ?_;refine Cq ?_ ?_
  ·intro h1
   have hi : i < ks.length := by simpa [t9] using h1
   have h1' := P4 (ks.take i)
   have h2 := y5 ks[i]
   have h3 := S0 (ks := ks) (i := i)
   have h4 := q9 hi
   refine Y20 ?_;refine Y50 ?_;refine yM ?_;refine b5 (g9 SS (h0 := by omega) (hp := D9 hi)) ?_;refine yL ?_;refine Dq (ih ks[i] (by omega) (by omega)) ?_;refine yI ?_;refine Y8 ?_;refine Y40 ?_
   refine ⟨i + 1, by omega, i9 ?_ ?_⟩
   ·repeat (first | exact SubE.nil | refine SubE.cons rfl (by first | rfl | (rw [b7 (by omega) (by omega)]; rfl) | (rw [J4 hi, b7 (by omega) (by omega)])) ?_)
   ·repeat (first | exact SubH.nil | refine SubH.cons rfl (by first | rfl | (rw [b7 (by omega) (by omega)]; rfl) | (rw [J4 hi, b7 (by omega) (by omega)])) ?_)
  ·intro h1
   have hi : ks.length ≤ i := by simpa [t9] using h1
   rw [List.take_of_length_le hi];refine Tri.exit ?_;refine Y88 ?_;refine Rq ?_;exact c7 (by simp_all [m7])
theorem ai0 : ∀ (N : Nat) (t : Tm), a8 t ≤ N → N < 2^40 → FCall Tryz.prog G 22 [.pu (tmc 0 t)] (bv (D3 t)) := by
 intro N
 induction N with
 | zero => intro t h; have := m8 t; omega
 | succ N ih =>
 intro t hp hN
 obtain ⟨k, n, r, ks, cs⟩ := t
 simp only [a8] at hp
 have hlen := f9 ks
 refine Fq 29 Tryz.func22 ?_;intro w0 M ρ0 D0
 refine Y85 ?_;refine Y55 ?_;refine Y29 ?_;refine Y0 ?_;refine Cq ?_ ?_
 ·intro h0
  refine Y10 ?_;refine Rq ?_;exact m0 (by simp at h0; simp [D3, h0])
 ·intro h0
  refine Tri.skip ?_;refine Y24 ?_;refine Y0 ?_;refine Cq ?_ ?_
  ·intro h1
   refine Y10 ?_;refine Rq ?_;exact m0 (by simp at h0 h1; simp [D3, h0, h1])
  ·intro h1
   refine Y45 ?_;refine Tri.block (Tri.loopW (σ := {i : Nat // ∀ j (hj : j < ks.length), j < i → D3 ks[j] = true}) (fun i => ⟨[(1, .ptr 1 [] 32), (3, iv .i64 i.1)], [(1, .var 32 (.pu (tmc 0 (.mk k n r ks cs))))]⟩) (fun i => ks.length - i.1) ⟨0, by intro j hj h; omega⟩ ?_ ?_ (fun i => ?_))
   ·exact zW
   ·exact zW
   refine Y93 ?_;refine Cq ?_ ?_
   ·intro h2
    have hi : i.1 < ks.length := by rw [a9] at h2; simpa using h2
    refine Y90 ?_;refine b5 (g9 SS (h0 := by omega) (hp := q7 hi)) ?_;refine yL ?_;refine Dq (ih ks[i.1] (by have := o8 (List.getElem_mem hi); omega) (by omega)) ?_;refine Y98 ?_;refine Cq ?_ ?_
    ·intro h3
     refine Y10 ?_;refine Rq ?_;exact m0 (by simp at h0; simp only [D3, aC8, h0.1, h0.2]; simp; exact ⟨h0, fun _ => ⟨_, List.getElem_mem hi, by simpa using h3⟩⟩)
    ·intro h3
     have hnext : ∀ j (hj : j < ks.length), j < i.1 + 1 → D3 ks[j] = true := fun j hj h => by
      rcases Nat.lt_or_ge j i.1 with h' | h'
      ·exact i.2 j hj h'
      ·obtain rfl : j = i.1 := by omega
       simpa using h3
     refine Y99 ?_
     refine ⟨⟨i.1 + 1, hnext⟩, by show ks.length - (i.1 + 1) < ks.length - i.1; omega, i9 ?_ ?_⟩
     ·exact zE
     ·exact zH
   ·intro h2
    have hi : ks.length ≤ i.1 := by rw [a9] at h2; simpa using h2
    have hall : ks.all D3 = true := by
     rw [List.all_eq_true]
     intro x hx
     obtain ⟨j, hj, rfl⟩ := List.getElem_of_mem hx
     exact i.2 j hj (by omega)
    refine Y63 ?_;refine Rq ?_;exact m0 (by simp at h1; simp [D3, aC8, h1, hall])
end
section
variable {G : List (Nat × TypeId × Pu)}
def S2 {α β : Type} (c : β → Bool) (f : β → α → β) : β → List α → β
 | b, [] => b
 | b, a :: l => if c b then S2 c f (f b a) l else b
theorem af9 {α β : Type} {c : β → Bool} {f : β → α → β} : ∀ {l : List α} {b : β} {i : Nat} (h : i < l.length), c (S2 c f b (l.take i)) = true → S2 c f b (l.take (i + 1)) = f (S2 c f b (l.take i)) l[i]
 | a :: l, b, 0, _, hc => by simp [S2] at hc ⊢; simp [hc]
 | a :: l, b, i + 1, h, hc => by
  simp only [List.take_succ_cons, S2, List.getElem_cons_succ] at hc ⊢
  split at hc
  ·rename_i h0; rw [if_pos h0, if_pos h0]; exact af9 (by simpa using h) hc
  ·rename_i h0; exact absurd hc h0
theorem ag0 {α β : Type} {c : β → Bool} {f : β → α → β} : ∀ {l : List α} {b : β} {i : Nat}, c (S2 c f b (l.take i)) = false → S2 c f b l = S2 c f b (l.take i)
 | [], b, i, h => by simp
 | a :: l, b, 0, h => by simp [S2] at h ⊢; intro h2; rw [h] at h2; cases h2
 | a :: l, b, i + 1, h => by
  simp only [List.take_succ_cons, S2] at h ⊢
  split
  ·rename_i h0; rw [if_pos h0] at h; exact ag0 h
  ·rfl
def ak1 (most : Int) (a : Int × Int) : Bool := decide (a.1 ≤ most)
def aC3 (a b : Int × Int) : Int × Int := (a.1 + b.1, max a.2 b.2)
def bZ7 (a b c : Int × Int) : Int × Int := (a.1 + b.1 + c.1, max (max a.2 b.2) c.2)
mutual
def aB9 (most : Int) : Pat → Int × Int
 | .mk _ _ _ ks => ((P1 most (1, 0) ks).1, (P1 most (1, 0) ks).2 + 1)
def P1 (most : Int) (a : Int × Int) : List Pat → Int × Int
 | [] => a
 | p :: ps => if ak1 most a then P1 most (aC3 a (aB9 (most - 1) p)) ps else a
end
theorem Z1 (most : Int) : ∀ (ks : List Pat) (a : Int × Int), P1 most a ks = S2 (ak1 most) (fun a p => aC3 a (aB9 (most - 1) p)) a ks
 | [], _ => rfl
 | p :: ps, a => by simp only [P1, S2, Z1 most ps]
mutual
def ax0 (most : Int) : Tm → Int × Int
 | .mk _ _ _ ks cs => ((L4 most (C8 most (1, 0) ks) cs).1, (L4 most (C8 most (1, 0) ks) cs).2 + 1)
def C8 (most : Int) (a : Int × Int) : List Tm → Int × Int
 | [] => a
 | p :: ps => if ak1 most a then C8 most (aC3 a (ax0 (most - 1) p)) ps else a
def L4 (most : Int) (a : Int × Int) : List Cs → Int × Int
 | [] => a
 | c :: cs => if ak1 most a then L4 most (bo3 most a c) cs else a
def bo3 (most : Int) (a : Int × Int) : Cs → Int × Int
 | .mk p t => bZ7 a (aB9 (most - 1) p) (ax0 (most - 1) t)
end
theorem X9 (most : Int) : ∀ (ks : List Tm) (a : Int × Int), C8 most a ks = S2 (ak1 most) (fun a p => aC3 a (ax0 (most - 1) p)) a ks
 | [], _ => rfl
 | p :: ps, a => by simp only [C8, S2, X9 most ps]
theorem Z2 (most : Int) : ∀ (ks : List Cs) (a : Int × Int), L4 most a ks = S2 (ak1 most) (bo3 most) a ks
 | [], _ => rfl
 | p :: ps, a => by simp only [L4, S2, Z2 most ps]
def Cnt (most : Int) (n d : Nat) (a : Int × Int) : Prop := (a.1 = n ∧ a.2 = d) ∨ (most < a.1 ∧ a.1 ≤ n ∧ 0 ≤ a.2 ∧ a.2 ≤ d)
theorem Cnt.b {most : Int} {n d : Nat} {a : Int × Int} (h : Cnt most n d a) : a.1 ≤ n ∧ 0 ≤ a.2 ∧ a.2 ≤ d := by unfold Cnt at h; omega
theorem Cnt.more {most : Int} {n d n' d' : Nat} {a : Int × Int} (h : Cnt most n d a) (hs : ak1 most a = false) (hn : n ≤ n') (hd : d ≤ d') : Cnt most n' d' a := by
 simp only [ak1, decide_eq_false_iff_not] at hs
 unfold Cnt at *; omega
mutual
theorem aj6 : ∀ (p : Pat) (most : Int), 1 ≤ (aB9 most p).1 ∧ Cnt most (l9 p) (ai4 p) (aB9 most p)
 | .mk _ _ _ ks, most => by
  have := ax1 ks most (1, 0) 1 0 (by simp) (.inl ⟨rfl, rfl⟩)
  simp only [aB9, l9, ai4]
  unfold Cnt at *
  simp only at *
  omega
theorem ax1 : ∀ (ks : List Pat) (most : Int) (a : Int × Int) (n d : Nat), 1 ≤ a.1 → Cnt most n d a → 1 ≤ (P1 most a ks).1 ∧ Cnt most (n + u5 ks) (max d (Q4 ks)) (P1 most a ks)
 | [], most, a, n, d, h1, h => by simpa [P1, u5, Q4] using ⟨h1, h⟩
 | p :: ps, most, a, n, d, h1, h => by
  simp only [P1, u5, Q4]
  split
  ·rename_i hc
   have h2 := aj6 p (most - 1)
   have := ax1 ps most (aC3 a (aB9 (most - 1) p)) (n + l9 p) (max d (ai4 p)) (by simp only [aC3]; omega) (by
    simp only [ak1, decide_eq_true_eq] at hc
    unfold Cnt aC3 at *; simp only; omega)
   rw [Nat.add_assoc, Nat.max_assoc] at this
   exact this
  ·rename_i hc
   exact ⟨h1, h.more (by simpa using hc) (by omega) (by omega)⟩
end
mutual
theorem Z0 : ∀ (p : Tm) (most : Int), 1 ≤ (ax0 most p).1 ∧ Cnt most (a8 p) (ah7 p) (ax0 most p)
 | .mk _ _ _ ks cs, most => by
  obtain ⟨h1, h2⟩ := am2 ks most (1, 0) 1 0 (by simp) (.inl ⟨rfl, rfl⟩)
  have := ax2 cs most _ _ _ h1 h2
  simp only [ax0, a8, ah7]
  unfold Cnt at *
  simp only at *
  omega
theorem am2 : ∀ (ks : List Tm) (most : Int) (a : Int × Int) (n d : Nat), 1 ≤ a.1 → Cnt most n d a → 1 ≤ (C8 most a ks).1 ∧ Cnt most (n + d7 ks) (max d (S5 ks)) (C8 most a ks)
 | [], most, a, n, d, h1, h => by simpa [C8, d7, S5] using ⟨h1, h⟩
 | p :: ps, most, a, n, d, h1, h => by
  simp only [C8, d7, S5]
  split
  ·rename_i hc
   have h2 := Z0 p (most - 1)
   have := am2 ps most (aC3 a (ax0 (most - 1) p)) (n + a8 p) (max d (ah7 p)) (by simp only [aC3]; omega) (by
    simp only [ak1, decide_eq_true_eq] at hc
    unfold Cnt aC3 at *; simp only; omega)
   rw [Nat.add_assoc, Nat.max_assoc] at this
   exact this
  ·rename_i hc
   exact ⟨h1, h.more (by simpa using hc) (by omega) (by omega)⟩
theorem ax2 : ∀ (ks : List Cs) (most : Int) (a : Int × Int) (n d : Nat), 1 ≤ a.1 → Cnt most n d a → 1 ≤ (L4 most a ks).1 ∧ Cnt most (n + f6 ks) (max d (Z5 ks)) (L4 most a ks)
 | [], most, a, n, d, h1, h => by simpa [L4, f6, Z5] using ⟨h1, h⟩
 | .mk q t :: ps, most, a, n, d, h1, h => by
  simp only [L4, f6, Z5]
  split
  ·rename_i hc
   have h2 := Z0 t (most - 1)
   have h3 := aj6 q (most - 1)
   have := ax2 ps most (bo3 most a (.mk q t)) (n + p9 (.mk q t)) (max d (aB1 (.mk q t))) (by simp only [bo3, bZ7]; omega) (by
    simp only [ak1, decide_eq_true_eq] at hc
    simp only [p9, aB1]
    unfold Cnt at *; simp only [bo3, bZ7]; omega)
   rw [Nat.add_assoc, Nat.max_assoc] at this
   exact this
  ·rename_i hc
   exact ⟨h1, h.more (by simpa using hc) (by omega) (by omega)⟩
end
abbrev ci2 (x : Int × Int) : PV := .tup [iv .i64 x.1, iv .i64 x.2]
theorem bv0 (most : Int) (ks : List Pat) (i : Nat) : 1 ≤ (P1 most (1, 0) (ks.take i)).1 ∧ (P1 most (1, 0) (ks.take i)).1 ≤ 1 + u5 ks ∧ 0 ≤ (P1 most (1, 0) (ks.take i)).2 ∧ (P1 most (1, 0) (ks.take i)).2 ≤ u5 ks := by
 obtain ⟨h1, h2⟩ := ax1 (ks.take i) most (1, 0) 1 0 (by simp) (.inl ⟨rfl, rfl⟩)
 have h3 := S0 (ks := ks) (i := i)
 have h4 := aw4 (ks.take i)
 have := h2.b
 omega
theorem as9 (a b : Int) : (if a < b then b else a) = max a b := by omega
theorem bJ2 : ∀ (N : Nat) (p : Pat), l9 p ≤ N → N < 2^40 → ∀ most : Int, -2^50 ≤ most - N ∧ most ≤ 2^50 → FCall Tryz.prog G 187 [.pu (v7 0 p), iv .i64 most] (ci2 (aB9 most p)) := by
 intro N
 induction N with
 | zero => intro p h; cases p; simp [l9] at h
 | succ N ih =>
 intro p hp hN most hm
 obtain ⟨k, n, r, ks⟩ := p
 simp only [l9] at hp
 have hlen := m4 ks
 refine Fq 43 Tryz.func187 ?_;intro w0 M ρ0 D0
 refine Y36 ?_;refine yB ?_;refine yB ?_;refine b8 [2] ?_;refine Y3 ?_;refine yB ?_;refine B5 ?_;refine Y10 ?_;refine Tri.block (Tri.loopW (σ := Nat) (fun i => ⟨[(2, .ptr 2 [] 104), (1, iv .i64 most), (8, iv .i64 i), (6, iv .i64 (P1 most (1, 0) (ks.take i)).1), (7, iv .i64 (P1 most (1, 0) (ks.take i)).2)], [(2, .var 104 (.pu (v7 0 (.mk k n r ks))))]⟩) (fun i => ks.length - i) 0 ?_ ?_ (fun i => ?_))
 ·exact zW
 ·exact zW
 refine Y50 ?_;refine Y26 ?_;refine ay7 ?_;refine Y97 ?_;refine Cq ?_ ?_
 ·intro h0
  rw [f5] at h0
  simp only [Bool.and_eq_true, decide_eq_true_eq] at h0
  have hi : i < ks.length := by omega
  have hb := bv0 most ks i
  have hsz := q9 hi
  have hpe := (aj6 ks[i] (most - 1))
  have hpb := hpe.2.b
  have hpd := as5 ks[i]
  have hnx : P1 most (1, 0) (ks.take (i + 1)) = aC3 (P1 most (1, 0) (ks.take i)) (aB9 (most - 1) ks[i]) := by
   rw [Z1, Z1]; rw [Z1] at h0
   exact af9 hi (by simp only [ak1, decide_eq_true_eq]; exact h0.2)
  have hw : IntKind.wrap .i64 (most - 1) = most - 1 := b7 (by omega) (by omega)
  refine Y90 ?_;refine b5 (g9 SS (h0 := by omega) (hp := D9 hi)) ?_;refine yL ?_;refine yM ?_;refine b5 (az0 SS) ?_
  simp only [hw]
  refine Dq (ih ks[i] (by omega) (by omega) (most - 1) (by omega)) ?_;refine Y80 ?_;refine Y62 ?_;refine Y48 ?_;refine b5 (I5) ?_;refine Y61 ?_;refine Y40 ?_
  refine ⟨i + 1, by omega, i9 ?_ ?_⟩
  ·repeat (first | exact SubE.nil | refine SubE.cons rfl (by first | rfl | (rw [b7 (by omega) (by omega)]; rfl) | (first | (rw [hnx, b7 (by omega) (by omega)]; rfl) | (rw [hnx, as9]; rfl))) ?_)
  ·repeat (first | exact SubH.nil | refine SubH.cons rfl (by first | rfl | (rw [b7 (by omega) (by omega)]; rfl) | (first | (rw [hnx, b7 (by omega) (by omega)]; rfl) | (rw [hnx, as9]; rfl))) ?_)
 ·intro h0
  have hfin : P1 most (1, 0) (ks.take i) = P1 most (1, 0) ks := by
   rw [f5] at h0
   by_cases hi : i < ks.length
   ·rw [Z1, Z1]; rw [Z1] at h0
    exact (ag0 (by simp only [ak1, decide_eq_false_iff_not]; simp at h0; have := h0 hi; omega)).symm
   ·rw [List.take_of_length_le (by omega)]
  rw [hfin]
  have hb := bv0 most ks ks.length
  simp only [List.take_length] at hb
  refine Tri.exit ?_;refine Y62 ?_;refine ch1 ?_;exact Tri.ret ⟨.inr rfl, q8 rfl b4 (VImp.refl _) b4 (c7 (by rw [b7 (by omega) (by omega)]; rfl))⟩
end
section
variable {G : List (Nat × TypeId × Pu)}
theorem bW6 (most : Int) (ks : List Tm) (i : Nat) : 1 ≤ (C8 most (1, 0) (ks.take i)).1 ∧ (C8 most (1, 0) (ks.take i)).1 ≤ 1 + d7 ks ∧ 0 ≤ (C8 most (1, 0) (ks.take i)).2 ∧ (C8 most (1, 0) (ks.take i)).2 ≤ d7 ks := by
 obtain ⟨h1, h2⟩ := am2 (ks.take i) most (1, 0) 1 0 (by simp) (.inl ⟨rfl, rfl⟩)
 have h3 := aa2 (ks := ks) (i := i)
 have h4 := ak7 (ks.take i)
 have := h2.b
 omega
theorem aB0 : ∀ {ks : List Cs} {i : Nat}, f6 (ks.take i) ≤ f6 ks
 | [], i => by simp [f6]
 | p :: ps, 0 => by simp [f6]
 | p :: ps, i + 1 => by
  have := aB0 (ks := ps) (i := i)
  simp [f6]; omega
theorem bv1 (most : Int) (ks : List Tm) (cs : List Cs) (i : Nat) : 1 ≤ (L4 most (C8 most (1, 0) ks) (cs.take i)).1 ∧ (L4 most (C8 most (1, 0) ks) (cs.take i)).1 ≤ 1 + d7 ks + f6 cs ∧ 0 ≤ (L4 most (C8 most (1, 0) ks) (cs.take i)).2 ∧ (L4 most (C8 most (1, 0) ks) (cs.take i)).2 ≤ d7 ks + f6 cs := by
 obtain ⟨h1, h2⟩ := am2 ks most (1, 0) 1 0 (by simp) (.inl ⟨rfl, rfl⟩)
 obtain ⟨h5, h6⟩ := ax2 (cs.take i) most _ _ _ h1 h2
 have h3 := aB0 (ks := cs) (i := i)
 have h4 := ax8 (cs.take i)
 have h7 := ak7 ks
 have := h6.b
 omega
set_option maxHeartbeats 2000000 in
theorem av8 : ∀ (N : Nat) (t : Tm), a8 t ≤ N → N < 2^40 → ∀ most : Int, -2^50 ≤ most - N ∧ most ≤ 2^50 → FCall Tryz.prog G 125 [.pu (tmc 0 t), iv .i64 most] (ci2 (ax0 most t)) := by
 intro N
 induction N with
 | zero => intro t h; have := m8 t; omega
 | succ N ih =>
 intro t hp hN most hm
 obtain ⟨k, n, r, ks, cs⟩ := t
 simp only [a8] at hp
 have hlen := f9 ks
 have hlenc := m5 cs
 refine Fq 93 Tryz.func125 ?_;intro w0 M ρ0 D0
 refine Y36 ?_;refine yB ?_;refine yB ?_;refine b8 [2] ?_;refine Y3 ?_;refine yB ?_;refine B5 ?_;refine Y10 ?_;refine Tri.block (Tri.loopW (σ := Nat) (fun i => ⟨[(2, .ptr 2 [] 32), (1, iv .i64 most), (8, iv .i64 i), (6, iv .i64 (C8 most (1, 0) (ks.take i)).1), (7, iv .i64 (C8 most (1, 0) (ks.take i)).2)], [(2, .var 32 (.pu (tmc 0 (.mk k n r ks cs))))]⟩) (fun i => ks.length - i) 0 ?_ ?_ (fun i => ?_))
 ·exact zW
 ·exact zW
 refine Y50 ?_;refine Y26 ?_;refine ay7 ?_;refine Y97 ?_;refine Cq ?_ ?_
 ·intro h0
  rw [a9] at h0
  simp only [Bool.and_eq_true, decide_eq_true_eq] at h0
  have hi : i < ks.length := by omega
  have hb := bW6 most ks i
  have hsz := o8 (List.getElem_mem hi)
  have hpb := (Z0 ks[i] (most - 1)).2.b
  have hpo := (Z0 ks[i] (most - 1)).1
  have hpd := ar4 ks[i]
  have hnx : C8 most (1, 0) (ks.take (i + 1)) = aC3 (C8 most (1, 0) (ks.take i)) (ax0 (most - 1) ks[i]) := by
   rw [X9, X9]; rw [X9] at h0
   exact af9 hi (by simp only [ak1, decide_eq_true_eq]; exact h0.2)
  have hw : IntKind.wrap .i64 (most - 1) = most - 1 := b7 (by omega) (by omega)
  refine Y90 ?_;refine b5 (g9 SS (h0 := by omega) (hp := q7 hi)) ?_;refine yL ?_;refine yM ?_;refine b5 (az0 SS) ?_
  simp only [hw]
  refine Dq (ih ks[i] (by omega) (by omega) (most - 1) (by omega)) ?_;refine Y80 ?_;refine Y62 ?_;refine Y48 ?_;refine b5 (I5) ?_;refine Y61 ?_;refine Y40 ?_
  refine ⟨i + 1, by omega, i9 ?_ ?_⟩
  ·repeat (first | exact SubE.nil | refine SubE.cons rfl (by first | rfl | (rw [b7 (by omega) (by omega)]; rfl) | (first | (rw [hnx, b7 (by omega) (by omega)]; rfl) | (rw [hnx, as9]; rfl))) ?_)
  ·repeat (first | exact SubH.nil | refine SubH.cons rfl (by first | rfl | (rw [b7 (by omega) (by omega)]; rfl) | (first | (rw [hnx, b7 (by omega) (by omega)]; rfl) | (rw [hnx, as9]; rfl))) ?_)
 ·intro h0
  have hfin : C8 most (1, 0) (ks.take i) = C8 most (1, 0) ks := by
   rw [a9] at h0
   by_cases hi : i < ks.length
   ·rw [X9, X9]; rw [X9] at h0
    exact (ag0 (by simp only [ak1, decide_eq_false_iff_not]; simp at h0; have := h0 hi; omega)).symm
   ·rw [List.take_of_length_le (by omega)]
  rw [hfin];refine Y63 ?_;refine Tri.block (Tri.loopW (σ := Nat) (fun i => ⟨[(2, .ptr 2 [] 32), (1, iv .i64 most), (11, iv .i64 i), (6, iv .i64 (L4 most (C8 most (1, 0) ks) (cs.take i)).1), (7, iv .i64 (L4 most (C8 most (1, 0) ks) (cs.take i)).2)], [(2, .var 32 (.pu (tmc 0 (.mk k n r ks cs))))]⟩) (fun i => cs.length - i) 0 ?_ ?_ (fun i => ?_))
  ·exact zW
  ·exact zW
  refine Y50 ?_;refine Y26 ?_;refine ay7 ?_;refine Y97 ?_;refine Cq ?_ ?_
  ·intro h1
   rw [j3] at h1
   simp only [Bool.and_eq_true, decide_eq_true_eq] at h1
   have hi : i < cs.length := by omega
   have hb := bv1 most ks cs i
   have hsz := B0 (List.getElem_mem hi)
   have hget := G2 (lo := 0) hi
   have hnx : L4 most (C8 most (1, 0) ks) (cs.take (i + 1)) = bo3 most (L4 most (C8 most (1, 0) ks) (cs.take i)) cs[i] := by
    rw [Z2, Z2]; rw [Z2] at h1
    exact af9 hi (by simp only [ak1, decide_eq_true_eq]; exact h1.2)
   generalize cs[i] = ci at hsz hget hnx
   obtain ⟨q, b⟩ := ci
   simp only [p9] at hsz
   simp only [bo3, bZ7] at hnx
   have hpb := (Z0 b (most - 1)).2.b
   have hpo := (Z0 b (most - 1)).1
   have hpd := ar4 b
   have hqb := (aj6 q (most - 1)).2.b
   have hqo := (aj6 q (most - 1)).1
   have hqd := as5 q
   have hqp := al4 q
   have htp := m8 b
   have hw : IntKind.wrap .i64 (most - 1) = most - 1 := b7 (by omega) (by omega)
   have hw2 : IntKind.wrap .i64 (IntKind.wrap .i64 ((L4 most (C8 most (1, 0) ks) (cs.take i)).1 + (aB9 (most - 1) q).1) + (ax0 (most - 1) b).1) = (L4 most (C8 most (1, 0) ks) (cs.take i)).1 + (aB9 (most - 1) q).1 + (ax0 (most - 1) b).1 := by
    rw [b7 (n := (L4 most (C8 most (1, 0) ks) (cs.take i)).1 + (aB9 (most - 1) q).1) (by omega) (by omega), b7 (by omega) (by omega)]
   refine Y90 ?_;refine Xq hget ?_;refine Y5 ?_;refine yM ?_;refine b5 (az0 SS) ?_
   simp only [hw]
   refine Dq (bJ2 _ q (Nat.le_refl _) (by omega) (most - 1) (by omega)) ?_;refine Y80 ?_;refine Y60 ?_;refine Xq hget ?_;refine Y5 ?_;refine yM ?_;refine b5 (az0 SS) ?_
   simp only [hw]
   refine Dq (ih b (by omega) (by omega) (most - 1) (by omega)) ?_;refine Y80 ?_;refine Y62 ?_;refine yM ?_;refine yI ?_;refine Y48 ?_;refine yM ?_;refine b5 (cc7) ?_;refine Y61 ?_;refine Y40 ?_
   refine ⟨i + 1, by omega, i9 ?_ ?_⟩
   ·repeat (first | exact SubE.nil | refine SubE.cons rfl (by first | rfl | (rw [b7 (by omega) (by omega)]; rfl) | (first | (rw [hw2, hnx]) | (rw [hnx]))) ?_)
   ·repeat (first | exact SubH.nil | refine SubH.cons rfl (by first | rfl | (rw [b7 (by omega) (by omega)]; rfl) | (first | (rw [hw2, hnx]) | (rw [hnx]))) ?_)
  ·intro h1
   have hfin : L4 most (C8 most (1, 0) ks) (cs.take i) = L4 most (C8 most (1, 0) ks) cs := by
    rw [j3] at h1
    by_cases hi : i < cs.length
    ·rw [Z2, Z2]; rw [Z2] at h1
     exact (ag0 (by simp only [ak1, decide_eq_false_iff_not]; simp at h1; have := h1 hi; omega)).symm
    ·rw [List.take_of_length_le (by omega)]
   rw [hfin]
   have hb := bv1 most ks cs cs.length
   simp only [List.take_length] at hb
   refine Tri.exit ?_;refine Y62 ?_;refine ch1 ?_;exact Tri.ret ⟨.inr rfl, q8 rfl b4 (VImp.refl _) b4 (c7 (by rw [b7 (by omega) (by omega)]; rfl))⟩
end
section
variable {G : List (Nat × TypeId × Pu)}
theorem aL9 {mn md most : Int} (t : Tm) (hm : mn ≤ most) : (decide ((ax0 most t).1 > mn) || decide ((ax0 most t).2 > md)) = (m2 mn md 1 0 t).1 := by
 have h1 := (Z0 t most).2
 obtain ⟨h2, h3⟩ := at2 mn md t 1 0
 unfold Cnt at h1
 by_cases h : 0 + (a8 t : Int) ≤ mn ∧ 1 + (ah7 t : Int) ≤ md + 1
 ·rw [h2 h]; simp only [Bool.or_eq_false_iff, decide_eq_false_iff_not]; omega
 ·rw [h3 h]; simp only [Bool.or_eq_true, decide_eq_true_eq]; omega
theorem bU1 (t : Tm) (hN : a8 t < 2^40) : FCall Tryz.prog G 147 [.pu (tmc 0 t)] (bv (m2 300 60 1 0 t).1) := by
 refine Fq 16 Tryz.func147 ?_;intro w0 M ρ0 D0
 refine Y85 ?_;refine Y4 ?_;refine Dq (av8 _ t (Nat.le_refl _) hN 400 (by omega)) ?_;refine Y80 ?_;refine Y58 ?_;refine Y79 ?_;refine Rq ?_;exact m0 (aL9 t (by omega))
theorem bK1 (a b c : Bool) (n : Int) (r : List Int) (m : Int) : ((!a && n != 0) || (!b && !(r == Z32)) || (!c && decide (m > 0))) = E5 a b c n r m := by
 unfold E5
 cases a <;> cases b <;> cases c <;> simp
theorem bs6 (k n : Int) (r : List Int) : ((k == 1 && n != 0) || (k != 3 && !(r == Z32))) = true ∧ J0 k 1 3 = false ↔ E5 (k == 2 || k == 3) (k == 3) false n r 0 = true ∧ J0 k 1 3 = false := by
 unfold E5 J0
 by_cases h1 : k = 1
 ·subst h1; simp
 ·by_cases h2 : k = 2
  ·subst h2; simp
  ·by_cases h3 : k = 3
   ·subst h3; simp
   ·constructor
    ·rintro ⟨_, h⟩; simp at h; omega
    ·rintro ⟨_, h⟩; simp at h; omega
set_option maxHeartbeats 1000000 in
theorem bT9 : ∀ (N : Nat) (p : Pat), l9 p ≤ N → N < 2^40 → FCall Tryz.prog G 216 [.pu (v7 0 p)] (iv .i64 (A4 p)) := by
 intro N
 induction N with
 | zero => intro p h; cases p; simp [l9] at h
 | succ N ih =>
 intro p hp hN
 obtain ⟨k, n, r, ks⟩ := p
 simp only [l9] at hp
 have hlen := m4 ks
 refine Fq 76 Tryz.func216 ?_;intro w0 M ρ0 D0
 refine Tri.fact (i := 0) rfl (fun D w x h => W8 h) (fun hr => ?_)
 simp only [wfP] at hr
 refine Y85 ?_;refine Y13 ?_;refine Dq (ai2 k 1 3) ?_;refine Y0 ?_;refine Cq ?_ ?_
 ·intro h0
  refine Y10 ?_;refine Rq ?_;exact c7 (by simp [A4, B9, h0])
 ·intro h0
  refine Tri.skip ?_;refine Y55 ?_;refine Y53 ?_;refine Y12 ?_;refine xI ?_;refine xM ?_;refine Y6 ?_
  first | refine f7 zG (bk4 SS) ?_ | refine f7 zG (aG1 SS) ?_ | refine f7 zG (aG2 SS) ?_
  refine f7 zG (D4 SS (h := ag4 (hr.1.trans rfl))) ?_;refine xN ?_;refine Y92 ?_;refine Cq ?_ ?_
  ·intro h1
   have hcl := (bs6 k n r).1 ⟨by simpa using h1, h0⟩
   refine Y10 ?_;refine Rq ?_;exact c7 (by simp [A4, B9, h0, hcl.1])
  ·intro h1
   have hcl : E5 (k == 2 || k == 3) (k == 3) false n r 0 = false := by
    cases hc : E5 (k == 2 || k == 3) (k == 3) false n r 0
    ·rfl
    ·have := ((bs6 k n r).2 ⟨hc, h0⟩).1
     rw [show ((k == 1 && n != 0) || (k != 3 && !(r == Z32))) = false by simpa using h1] at this
     cases this
   refine Tri.skip ?_;refine Y55 ?_;refine xC ?_;refine Y53 ?_;refine Y12 ?_;refine xC ?_;refine Y29 ?_;refine Y0 ?_;refine Cq ?_ ?_
   ·intro h2
    rw [f5] at h2
    have hmany : decide (((ks.length : Nat) : Int) > (if k == 3 then 4 else 0)) = true := by
     simp only [Bool.or_eq_true, Bool.and_eq_true, bne_iff_ne, ne_eq, decide_eq_true_eq] at h2 ⊢
     split <;> simp_all <;> omega
    refine Y10 ?_;refine Rq ?_;exact c7 (by simp only [A4, B9, h0, hcl, hmany]; simp)
   ·intro h2
    rw [f5] at h2
    have hmany : decide (((ks.length : Nat) : Int) > (if k == 3 then 4 else 0)) = false := by
     simp only [Bool.or_eq_false_iff, Bool.and_eq_false_iff, bne_eq_false_iff_eq, decide_eq_false_iff_not] at h2 ⊢
     split <;> simp_all <;> omega
    refine Tri.skip ?_;refine Y55 ?_;refine f7 zG (c8 (fun _ => ai2 n 0 1073741824)) ?_;refine yN ?_;refine Y12 ?_;refine xI ?_;refine xM ?_;refine Y6 ?_;refine f7 zG (c8 (fun _ => ai2 n 0 7)) ?_;refine xN ?_;refine Y92 ?_;refine Cq ?_ ?_
    ·intro h3
     have hpe : B9 k n r ks.length = 3 := by simp only [B9, h0, hcl, hmany, h3]; simp
     refine Y10 ?_;refine Rq ?_;exact c7 (by simp [A4, hpe])
    ·intro h3
     have hpe : B9 k n r ks.length = 0 := by simp only [B9, h0, hcl, hmany, h3]; simp
     have hpf : A4 (.mk k n r ks) = m6 A4 ks := by simp [A4, hpe, aJ5]
     refine Y45 ?_;refine Tri.block (Tri.loopW (σ := {i : Nat // m6 A4 (ks.take i) = 0}) (fun i => ⟨[(1, .ptr 1 [] 104), (3, iv .i64 i.1)], [(1, .var 104 (.pu (v7 0 (.mk k n r ks))))]⟩) (fun i => ks.length - i.1) ⟨0, rfl⟩ ?_ ?_ (fun i => ?_))
     ·exact zW
     ·exact zW
     refine Y93 ?_;refine Cq ?_ ?_
     ·intro h4
      have hi : i.1 < ks.length := by rw [f5] at h4; simpa using h4
      refine Y90 ?_;refine b5 (g9 SS (h0 := by omega) (hp := D9 hi)) ?_;refine yL ?_;refine Dq (ih ks[i.1] (by have := q9 hi; omega) (by omega)) ?_;refine Y52 ?_;refine Cq ?_ ?_
      ·intro h5
       have h5' : A4 ks[i.1] ≠ 0 := by simpa using h5
       have hf : m6 A4 (ks.take (i.1 + 1)) = A4 ks[i.1] := by rw [t7 _ hi, if_pos i.2]
       have hf2 := H7 A4 (l := ks) (i := i.1 + 1) (by rw [hf]; exact h5')
       refine Y88 ?_;refine Rq ?_;exact c7 (by rw [hpf, hf2, hf])
      ·intro h5
       have h5' : A4 ks[i.1] = 0 := by simpa using h5
       have hnext : m6 A4 (ks.take (i.1 + 1)) = 0 := by rw [t7 _ hi, if_pos i.2, h5']
       refine Y99 ?_
       refine ⟨⟨i.1 + 1, hnext⟩, by show ks.length - (i.1 + 1) < ks.length - i.1; omega, i9 ?_ ?_⟩
       ·exact zE
       ·exact zH
     ·intro h4
      have hz1 : m6 A4 ks = 0 := by have := i.2; rwa [List.take_of_length_le (by rw [f5] at h4; simp at h4; omega)] at this
      refine Y63 ?_;refine Rq ?_;exact c7 (by rw [hpf, hz1])
end
section
variable {G : List (Nat × TypeId × Pu)}
theorem aP8 (k : Int) (n : Nat) : J0 (n : Int) (I9 k).1 (I9 k).2 = !y7 k n := by
 unfold I9 y7 J0
 split
 ·rw [Bool.eq_iff_iff]; simp; omega
 ·split
  ·rw [Bool.eq_iff_iff]; simp; omega
  ·split
   ·rw [Bool.eq_iff_iff]; simp; omega
   ·split
    ·rw [Bool.eq_iff_iff]; simp
    ·rw [Bool.eq_iff_iff]; simp; omega
theorem aN0 (m d b k : Int) : ∀ (ks : List Tm) (i : Nat), S4 m d b k i ks = m6 (fun x : Nat × Tm => H8 m d (b + j8 k x.1) x.2) (ks.mapIdx fun j t => (i + j, t))
 | [], i => rfl
 | t :: ts, i => by
  have ih := aN0 m d b k ts (i + 1)
  simp only [S4, List.mapIdx_cons, m6, Nat.add_zero, orE]
  rw [ih, show (fun (j : Nat) (t : Tm) => (i + (j + 1), t)) = fun j t => (i + 1 + j, t) by funext j t; rw [show i + (j + 1) = i + 1 + j by omega]]
theorem aN1 (m d b : Int) : ∀ (cs : List Cs), T7 m d b cs = m6 (Q8 m d b) cs
 | [] => rfl
 | c :: cs => by simp only [T7, m6, aN1 m d b cs, orE]
theorem ce9 {k : Int} (h : J0 k 1 12 = false) : 1 ≤ k ∧ k ≤ 12 := by unfold J0 at h; simp at h; omega
set_option maxHeartbeats 4000000 in
theorem bU0 (members depth : Int) : ∀ (N : Nat) (t : Tm), a8 t ≤ N → N < 2^40 → ∀ bound : Int, 0 ≤ bound → bound + 2 * a8 t ≤ 2^42 →
  FCall Tryz.prog G 148 [.pu (tmc 0 t), iv .i64 depth, iv .i64 members, iv .i64 bound] (iv .i64 (H8 members depth bound t)) := by
 intro N
 induction N with
 | zero => intro t h; have := m8 t; omega
 | succ N ih =>
 intro t hp hN bound hb0 hb1
 obtain ⟨k, n, r, ks, cs⟩ := t
 simp only [a8] at hp hb1
 have hlen := f9 ks
 have hlenc := m5 cs
 refine Fq 210 Tryz.func148 ?_;intro w0 M ρ0 D0
 refine Tri.fact (i := 0) rfl (fun D w x h => ab7 h) (fun hr => ?_)
 simp only [wfT] at hr
 have hterm : ∀ e, f8 members depth bound k n r ks.length cs.length = e → e ≠ 0 → H8 members depth bound (.mk k n r ks cs) = e := fun e h h0 => by
  simp only [H8, orE, h, if_neg h0]
 refine yR ?_;refine p7 SS 4 ?_;refine yB ?_;refine b8 [4] ?_;refine Y13 ?_;refine Dq (ai2 k 1 12) ?_;refine Y0 ?_;refine Cq ?_ ?_
 ·intro h0
  refine Y10 ?_;refine Rq ?_;exact c7 (by rw [hterm 3 (by simp [f8, h0]) (by simp)])
 ·intro h0
  refine Tri.skip ?_;refine Y13 ?_;refine Dq (bA4 k) ?_;refine yQ ?_;refine Y12 ?_;refine Y53 ?_;refine Y12 ?_;refine f7 zG (c8 (fun _ => bA3 k)) ?_;refine xQ ?_;refine xM ?_;refine Y6 ?_
  first | refine f7 zG (bk4 SS) ?_ | refine f7 zG (aG1 SS) ?_ | refine f7 zG (aG2 SS) ?_
  refine f7 zG (D4 SS (h := ag4 (hr.1.trans rfl))) ?_;refine xN ?_;refine yO ?_;refine Y12 ?_;refine xI ?_;refine xM ?_;refine Y6 ?_;refine xC ?_;refine xI ?_;refine xN ?_;refine Y92 ?_;refine Cq ?_ ?_
  ·intro h1
   have hcl : E5 (E7 k) (G1 k) (A8 k) n r cs.length = true := by rw [j3] at h1; rw [← bK1]; exact h1
   refine Y10 ?_;refine Rq ?_;exact c7 (by rw [hterm 7 (by simp [f8, h0, hcl]) (by simp)])
  ·intro h1
   have hcl : E5 (E7 k) (G1 k) (A8 k) n r cs.length = false := by rw [j3] at h1; rw [← bK1]; exact h1
   refine Tri.skip ?_;refine Y13 ?_;refine Dq (bU2 k) ?_;refine Y80 ?_;refine Y14 ?_;refine yC ?_;refine Y48 ?_;refine Dq (ai2 _ (I9 k).1 (I9 k).2) ?_;refine Y12 ?_;refine xC ?_;refine Y29 ?_;refine Y0 ?_;refine Cq ?_ ?_
   ·intro h2
    have hmany : (!y7 k ks.length || decide ((cs.length : Int) > 8)) = true := by rw [a9, j3, aP8] at h2; exact h2
    refine Y10 ?_;refine Rq ?_;exact c7 (by rw [hterm 2 (by simp only [f8, h0, hcl, hmany]; simp) (by simp)])
   ·intro h2
    have hmany : (!y7 k ks.length || decide ((cs.length : Int) > 8)) = false := by rw [a9, j3, aP8] at h2; exact h2
    refine Tri.skip ?_;refine Y55 ?_;refine f7 zG (c8 (fun _ => ai2 n 0 1073741824)) ?_;refine yN ?_;refine Y12 ?_;refine xI ?_;refine xM ?_;refine Y6 ?_;refine f7 zG (c8 (fun _ => ai2 n 1 5)) ?_;refine xN ?_;refine yO ?_;refine Y12 ?_;refine xI ?_;refine xM ?_;refine Y6 ?_;refine xI ?_;refine xO ?_;refine xM ?_;refine Y6 ?_;refine f7 zG (c8 (fun _ => ai2 n 0 7)) ?_;refine xN ?_;refine Y92 ?_;refine Cq ?_ ?_
    ·intro h3
     have he3 : f8 members depth bound k n r ks.length cs.length = 3 := by
      simp only [f8, h0, hcl, hmany]
      simp only [Bool.or_eq_true, Bool.and_eq_true, beq_iff_eq] at h3
      rcases h3 with (⟨rfl, h⟩ | ⟨rfl, h⟩) | ⟨rfl | rfl, h⟩ <;> simp [h]
     refine Y10 ?_;refine Rq ?_;exact c7 (by rw [hterm 3 he3 (by simp)])
    ·intro h3
     refine Tri.skip ?_;refine Y55 ?_;refine xI ?_;refine xM ?_;refine Y6 ?_;refine Y19 ?_;refine xM ?_;refine Y6 ?_;refine Y19 ?_;refine Y19 ?_;refine xN ?_;refine xO ?_;refine yN ?_;refine Y12 ?_;refine xI ?_;refine xM ?_;refine Y6 ?_;refine xI ?_;refine xM ?_;refine Y6 ?_;refine Y19 ?_;refine xO ?_;refine xN ?_;refine Y92 ?_;refine Cq ?_ ?_
     ·intro h4
      have he1 : f8 members depth bound k n r ks.length cs.length = 1 := by
       simp only [f8, h0, hcl, hmany]
       simp only [Bool.or_eq_true, Bool.and_eq_true, beq_iff_eq, decide_eq_true_eq] at h4
       rcases h4 with ⟨rfl, h⟩ | ⟨rfl, h⟩
       ·have hk : S8 depth n bound = false := by unfold S8; simp; omega
        simp [hk]
       ·simp [h]
      refine Y10 ?_;refine Rq ?_;exact c7 (by rw [hterm 1 he1 (by simp)])
     ·intro h4
      have he0 : f8 members depth bound k n r ks.length cs.length = 0 := by
       simp only [f8, h0, hcl, hmany]
       simp only [Bool.or_eq_false_iff, Bool.and_eq_false_iff, beq_eq_false_iff_ne, ne_eq, decide_eq_false_iff_not] at h3 h4
       have hk : k = 1 → S8 depth n bound = true := fun e => by unfold S8; simp; omega
       by_cases k1 : k = 1
       ·subst k1; simp [hk rfl]
       ·by_cases k2 : k = 2
        ·subst k2; simp at h3; simp [h3]
        ·by_cases k7 : k = 7
         ·subst k7; simp at h4; simp; omega
         ·by_cases k8 : k = 8
          ·subst k8; simp at h3; simp [h3]
          ·by_cases k10 : k = 10
           ·subst k10; simp at h3; simp [h3]
           ·by_cases k11 : k = 11
            ·subst k11; simp at h3; simp [h3]
            ·simp [k1, k2, k7, k8, k10, k11]
      have hrest : H8 members depth bound (.mk k n r ks cs) = orE (m6 (fun c => A4 (csP c)) cs) (orE (S4 members depth bound k 0 ks) (T7 members depth bound cs)) := by simp only [H8, he0]; rfl
      refine Y45 ?_;refine Tri.block (Tri.loopW (σ := {i : Nat // m6 (fun c => A4 (csP c)) (cs.take i) = 0}) (fun i => ⟨[(4, .ptr 4 [] 32), (1, iv .i64 depth), (2, iv .i64 members), (3, iv .i64 bound), (11, iv .i64 i.1)], [(4, .var 32 (.pu (tmc 0 (.mk k n r ks cs))))]⟩) (fun i => cs.length - i.1) ⟨0, rfl⟩ ?_ ?_ (fun i => ?_))
      ·exact zW
      ·exact zW
      refine Y93 ?_;refine Cq ?_ ?_
      ·intro h5
       have hi : i.1 < cs.length := by rw [j3] at h5; simpa using h5
       have hcz := B0 (List.getElem_mem hi)
       have hpz : l9 (csP cs[i.1]) ≤ p9 cs[i.1] := by generalize cs[i.1] = c; cases c; simp only [csP, p9]; omega
       have hget := G2 (lo := 0) hi
       rw [aX6] at hget
       refine Y90 ?_;refine Xq hget ?_;refine Y5 ?_;refine Dq (bT9 _ (csP cs[i.1]) (Nat.le_refl _) (by omega)) ?_;refine Y52 ?_;refine Cq ?_ ?_
       ·intro h6
        have h6' : A4 (csP cs[i.1]) ≠ 0 := by simpa using h6
        have hf : m6 (fun c => A4 (csP c)) (cs.take (i.1 + 1)) = A4 (csP cs[i.1]) := by rw [t7 _ hi, if_pos i.2]
        have hf2 := H7 (fun c => A4 (csP c)) (l := cs) (i := i.1 + 1) (by rw [hf]; exact h6')
        refine Y88 ?_;refine Rq ?_;exact c7 (by simp only [hrest, orE, hf2, hf, if_neg h6'])
       ·intro h6
        have h6' : A4 (csP cs[i.1]) = 0 := by simpa using h6
        have hnext : m6 (fun c => A4 (csP c)) (cs.take (i.1 + 1)) = 0 := by rw [t7 _ hi, if_pos i.2, h6']
        refine Y99 ?_
        refine ⟨⟨i.1 + 1, hnext⟩, by show cs.length - (i.1 + 1) < cs.length - i.1; omega, i9 ?_ ?_⟩
        ·exact zE
        ·exact zH
      ·intro h5
       have hz1 : m6 (fun c => A4 (csP c)) cs = 0 := by have := i.2; rwa [List.take_of_length_le (by rw [j3] at h5; simp at h5; omega)] at this
       clear h0 h1 h2 h3 h4 h5 hcl hmany;refine Y63 ?_;refine Tri.block (Tri.loopW (σ := {i : Nat // m6 (fun x : Nat × Tm => H8 members depth (bound + j8 k x.1) x.2) ((ks.mapIdx fun j t => (0 + j, t)).take i) = 0}) (fun i => ⟨[(4, .ptr 4 [] 32), (1, iv .i64 depth), (2, iv .i64 members), (3, iv .i64 bound), (13, iv .i64 i.1)], [(4, .var 32 (.pu (tmc 0 (.mk k n r ks cs))))]⟩) (fun i => ks.length - i.1) ⟨0, rfl⟩ ?_ ?_ (fun i => ?_))
       ·exact zW
       ·exact zW
       refine Y93 ?_;refine Cq ?_ ?_
       ·intro h7
        have hi : i.1 < ks.length := by rw [a9] at h7; simpa using h7
        have hmb := ae9 k i.1
        have hsz := o8 (List.getElem_mem hi)
        have hil : i.1 < (ks.mapIdx fun j t => (0 + j, t)).length := by simpa using hi
        have hel : (ks.mapIdx fun j t => (0 + j, t))[i.1] = (i.1, ks[i.1]) := by simp
        refine Y90 ?_;refine b5 (g9 SS (h0 := by omega) (hp := q7 hi)) ?_;refine yL ?_;refine Y48 ?_;refine yM ?_;refine Y5 ?_;refine yM ?_;refine Dq (aV1 k i.1) ?_;refine b5 (az0 SS) ?_;rw [b7 (n := bound + j8 k i.1) (by omega) (by omega)];refine Dq (ih ks[i.1] (by omega) (by omega) (bound + j8 k i.1) (by omega) (by omega)) ?_;refine av1 ?_;refine Y30 ?_;refine Cq ?_ ?_
        ·intro h8
         have h8' : H8 members depth (bound + j8 k i.1) ks[i.1] ≠ 0 := by simpa using h8
         have hf : m6 (fun x : Nat × Tm => H8 members depth (bound + j8 k x.1) x.2) ((ks.mapIdx fun j t => (0 + j, t)).take (i.1 + 1)) = H8 members depth (bound + j8 k i.1) ks[i.1] := by rw [t7 _ hil, if_pos i.2, hel]
         have hf2 := H7 (fun x : Nat × Tm => H8 members depth (bound + j8 k x.1) x.2) (l := ks.mapIdx fun j t => (0 + j, t)) (i := i.1 + 1) (by rw [hf]; exact h8')
         refine Y88 ?_;refine Rq ?_;exact c7 (by simp only [hrest, orE, hz1, aN0, hf2, hf, if_neg h8', if_true])
        ·intro h8
         have h8' : H8 members depth (bound + j8 k i.1) ks[i.1] = 0 := by simpa using h8
         have hnext : m6 (fun x : Nat × Tm => H8 members depth (bound + j8 k x.1) x.2) ((ks.mapIdx fun j t => (0 + j, t)).take (i.1 + 1)) = 0 := by rw [t7 _ hil, if_pos i.2, hel, h8']
         refine Y99 ?_
         refine ⟨⟨i.1 + 1, hnext⟩, by show ks.length - (i.1 + 1) < ks.length - i.1; omega, i9 ?_ ?_⟩
         ·exact zE
         ·exact zH
       ·intro h7
        have hz2 : S4 members depth bound k 0 ks = 0 := by
         have := i.2
         rw [aN0]
         rwa [List.take_of_length_le (by rw [a9] at h7; simp at h7; simpa using h7)] at this
        refine Y63 ?_;refine Tri.block (Tri.loopW (σ := {i : Nat // m6 (Q8 members depth bound) (cs.take i) = 0}) (fun i => ⟨[(4, .ptr 4 [] 32), (1, iv .i64 depth), (2, iv .i64 members), (3, iv .i64 bound), (15, iv .i64 i.1)], [(4, .var 32 (.pu (tmc 0 (.mk k n r ks cs))))]⟩) (fun i => cs.length - i.1) ⟨0, rfl⟩ ?_ ?_ (fun i => ?_))
        ·exact zW
        ·exact zW
        refine Y93 ?_;refine Cq ?_ ?_
        ·intro h9
         have hi : i.1 < cs.length := by rw [j3] at h9; simpa using h9
         have hcz := B0 (List.getElem_mem hi)
         have hget := G2 (lo := 0) hi
         have hft := t7 (Q8 members depth bound) hi
         rw [if_pos i.2] at hft
         have hfp := fun h => H7 (Q8 members depth bound) (l := cs) (i := i.1 + 1) h
         generalize cs[i.1] = ci at hcz hget hft
         obtain ⟨q, b⟩ := ci
         simp only [p9] at hcz
         have hbb := y5 q
         have htp := m8 b
         simp only [Q8] at hft
         refine Y90 ?_;refine Xq hget ?_;refine Y5 ?_;refine Y48 ?_;refine yM ?_;refine Y68 ?_;refine Xq hget ?_;refine Y5 ?_;refine Dq (aI3 _ q (Nat.le_refl _) (by omega)) ?_;refine b5 (az0 SS) ?_;rw [b7 (n := bound + m7 q) (by omega) (by omega)];refine Dq (ih b (by omega) (by omega) (bound + m7 q) (by omega) (by omega)) ?_;refine av1 ?_;refine Y30 ?_;refine Cq ?_ ?_
         ·intro h10
          have h10' : H8 members depth (bound + m7 q) b ≠ 0 := by simpa using h10
          have hf2 := hfp (by rw [hft]; exact h10')
          refine Y88 ?_;refine Rq ?_;exact c7 (by simp only [hrest, orE, hz1, hz2, aN1, hf2, hft, if_true])
         ·intro h10
          have h10' : H8 members depth (bound + m7 q) b = 0 := by simpa using h10
          have hnext : m6 (Q8 members depth bound) (cs.take (i.1 + 1)) = 0 := by rw [hft, h10']
          refine Y99 ?_
          refine ⟨⟨i.1 + 1, hnext⟩, by show cs.length - (i.1 + 1) < cs.length - i.1; omega, i9 ?_ ?_⟩
          ·exact zE
          ·exact zH
        ·intro h9
         have hz3 : m6 (Q8 members depth bound) cs = 0 := by have := i.2; rwa [List.take_of_length_le (by rw [j3] at h9; simp at h9; omega)] at this
         refine Y63 ?_;refine Rq ?_;exact c7 (by simp only [hrest, orE, hz1, hz2, aN1, hz3, if_true])
theorem bc2 (t : Tm) (hN : a8 t < 2^40) (depth members : Int) : FCall Tryz.prog G 87 [.pu (tmc 0 t), iv .i64 depth, iv .i64 members] (iv .i64 (n6 t depth members)) := by
 refine Fq 13 Tryz.func87 ?_;intro w0 M ρ0 D0
 refine Y49 ?_;refine yB ?_;refine b8 [3] ?_;refine Y4 ?_;refine Dq (bU1 t hN) ?_;refine Y0 ?_;refine Cq ?_ ?_
 ·intro h0
  refine Y10 ?_;refine Rq ?_;exact c7 (by simp [n6, h0])
 ·intro h0
  refine Y72 ?_;refine Y48 ?_;refine Dq (bU0 members depth _ t (Nat.le_refl _) hN 0 (by omega) (by omega)) ?_;refine Y2 ?_;refine Rq ?_;exact c7 (by simp [n6, h0])
end
section
variable {G : List (Nat × TypeId × Pu)}
def am8 (s : List Int) (ts : List KT) : Int := match ts.findIdx? (fun x => x.1 == s) with
 | some i => (i : Int)
 | none => -1
theorem bv2 {s : List Int} {ts : List KT} : 0 ≤ am8 s ts ↔ s ∈ ts.map (·.1) := by
 unfold am8
 split
 ·rename_i i h
  obtain ⟨h1, h2, _⟩ := List.findIdx?_eq_some_iff_getElem.1 h
  simp only [beq_iff_eq] at h2
  exact ⟨fun _ => List.mem_map.2 ⟨_, List.getElem_mem h1, h2⟩, fun _ => by omega⟩
 ·rename_i h
  rw [List.findIdx?_eq_none_iff] at h
  refine ⟨fun h => by omega, fun hm => ?_⟩
  obtain ⟨x, hx, rfl⟩ := List.mem_map.1 hm
  have := h x hx
  simp at this
theorem aV3 (ts : List KT) (s : List Int) (hl : ts.length < 2^40) : FCall Tryz.prog G 90 [.pu (.sl 0 116 (ts.map ktP)), .pu (l4 s)] (iv .i64 (am8 s ts)) := by
 refine Fq 20 Tryz.func90 ?_;intro w0 M ρ0 D0
 refine Tri.fact (i := 0) rfl (fun D w x h => (aT0 h).elim fun _ h => h.elim fun _ h => bn4 h) (fun hr => ?_);refine Tri.fact (i := 1) rfl (fun D w x h => R3 h) (fun hs => ?_);refine Y49 ?_;refine yB ?_;refine b8 [3] ?_;refine Y10 ?_;refine Tri.block (Tri.loopW (σ := {i : Nat // ∀ j (hj : j < ts.length), j < i → (ts[j].1 == s) = false}) (fun i => ⟨[(3, .ptr 3 [] 28), (0, .pu (.sl 0 116 (ts.map ktP))), (5, iv .i64 i.1)], [(3, .var 28 (.pu (l4 s)))]⟩) (fun i => ts.length - i.1) ⟨0, by intro j hj h; omega⟩ ?_ ?_ (fun i => ?_))
 ·exact zW
 ·exact zW
 refine Y17 ?_;refine Y47 ?_;refine Cq ?_ ?_
 ·intro h0
  have hi : i.1 < ts.length := by simpa using h0
  refine Y20 ?_;refine Y17 ?_;refine b5 (g9 SS (h0 := by omega) (hp := ab4 hi)) ?_;refine Y5 ?_;refine yL ?_;refine b5 (D4 SS (h := U6 ((hr _ (List.getElem_mem hi)).trans hs.symm))) ?_;refine Y42 ?_;refine Cq ?_ ?_
  ·intro h1
   have hf : am8 s ts = i.1 := by
    unfold am8
    rw [List.findIdx?_eq_some_iff_getElem.2 ⟨hi, by simpa using h1, fun j hj => by simp only [i.2 j (by omega) hj]; simp⟩]
   refine Y88 ?_;refine Rq ?_;exact c7 hf.symm
  ·intro h1
   have hnext : ∀ j (hj : j < ts.length), j < i.1 + 1 → (ts[j].1 == s) = false := fun j hj h => by
    rcases Nat.lt_or_ge j i.1 with h' | h'
    ·exact i.2 j hj h'
    ·obtain rfl : j = i.1 := by omega
     exact h1
   refine Y99 ?_
   refine ⟨⟨i.1 + 1, hnext⟩, by show ts.length - (i.1 + 1) < ts.length - i.1; omega, i9 ?_ ?_⟩
   ·exact zE
   ·exact zH
 ·intro h0
  have hf : am8 s ts = -1 := by
   unfold am8
   rw [List.findIdx?_eq_none_iff.2 fun x hx => ?_]
   obtain ⟨j, hj, rfl⟩ := List.getElem_of_mem hx
   exact i.2 j hj (by simp at h0; omega)
  refine Y63 ?_;refine Rq ?_;exact c7 hf.symm
def ad9 (ts : List KT) (most : Int) : Int := if decide ((ts.length : Int) > most) then 2 else orE (m6 (fun x => n6 x.2 0 0) ts) (if bh9 ts then 5 else 0)
theorem bI8 (ts : List KT) (most : Int) (hl : ts.length < 2^40) (hts : ∀ x ∈ ts, a8 x.2 < 2^40) : FCall Tryz.prog G 86 [.pu (.sl 0 116 (ts.map ktP)), iv .i64 most] (iv .i64 (ad9 ts most)) := by
 refine Fq 43 Tryz.func86 ?_;intro w0 M ρ0 D0
 refine Y71 ?_;refine yC ?_;refine yM ?_;refine yI ?_;refine Y0 ?_;refine Cq ?_ ?_
 ·intro h0
  refine Y10 ?_;refine Rq ?_;exact c7 (by simp at h0; simp [ad9, h0])
 ·intro h0
  have hlen : ¬ ((ts.length : Int) > most) := by simpa using h0
  refine Y45 ?_;refine Tri.block (Tri.loopW (σ := {i : Nat // m6 (fun x : KT => n6 x.2 0 0) (ts.take i) = 0}) (fun i => ⟨[(0, .pu (.sl 0 116 (ts.map ktP))), (5, iv .i64 i.1)], []⟩) (fun i => ts.length - i.1) ⟨0, rfl⟩ ?_ ?_ (fun i => ?_))
  ·exact zW
  ·exact zW
  refine Y17 ?_;refine Y47 ?_;refine Cq ?_ ?_
  ·intro h1
   have hi : i.1 < ts.length := by simpa using h1
   refine Y20 ?_;refine Y17 ?_;refine b5 (g9 SS (h0 := by omega) (hp := ab4 hi)) ?_;refine Y5 ?_;refine Dq (bc2 ts[i.1].2 (hts _ (List.getElem_mem hi)) 0 0) ?_;refine Y52 ?_;refine Cq ?_ ?_
   ·intro h2
    have h2' : n6 ts[i.1].2 0 0 ≠ 0 := by simpa using h2
    have hf : m6 (fun x : KT => n6 x.2 0 0) (ts.take (i.1 + 1)) = n6 ts[i.1].2 0 0 := by rw [t7 _ hi, if_pos i.2]
    have hf2 := H7 (fun x : KT => n6 x.2 0 0) (l := ts) (i := i.1 + 1) (by rw [hf]; exact h2')
    refine Y88 ?_;refine Rq ?_;exact c7 (by simp [ad9, hlen, orE, hf2, hf, h2'])
   ·intro h2
    have h2' : n6 ts[i.1].2 0 0 = 0 := by simpa using h2
    have hnext : m6 (fun x : KT => n6 x.2 0 0) (ts.take (i.1 + 1)) = 0 := by rw [t7 _ hi, if_pos i.2, h2']
    refine Y99 ?_
    refine ⟨⟨i.1 + 1, hnext⟩, by show ts.length - (i.1 + 1) < ts.length - i.1; omega, i9 ?_ ?_⟩
    ·exact zE
    ·exact zH
  ·intro h1
   have hz1 : m6 (fun x : KT => n6 x.2 0 0) ts = 0 := by have := i.2; rwa [List.take_of_length_le (by simp at h1; omega)] at this
   refine Y63 ?_;refine Tri.block (Tri.loopW (σ := {i : Nat // ((ts.take i).map (·.1)).Nodup}) (fun i => ⟨[(0, .pu (.sl 0 116 (ts.map ktP))), (7, iv .i64 i.1)], []⟩) (fun i => ts.length - i.1) ⟨0, by simp⟩ ?_ ?_ (fun i => ?_))
   ·exact zW
   ·exact zW
   refine Y17 ?_;refine Y47 ?_;refine Cq ?_ ?_
   ·intro h3
    have hi : i.1 < ts.length := by simpa using h3
    have hdup := ap1 (l := ts.map (·.1)) (i := i.1) (by simpa using hi)
    rw [List.map_take.symm, List.map_take.symm, List.getElem_map] at hdup
    have hfm := bv2 (s := ts[i.1].1) (ts := ts.take i.1)
    have hfc := aV3 (G := G) (ts.take i.1) ts[i.1].1 (by rw [List.length_take]; omega)
    rw [List.map_take] at hfc
    refine Y20 ?_;refine Y17 ?_;refine b5 (ab5 SS (ps := ts.map ktP) (r := i.1) (by rw [List.length_map]; omega)) ?_;refine Y48 ?_;refine b5 (g9 SS (h0 := by omega) (hp := ab4 hi)) ?_;refine Y5 ?_;refine Dq hfc ?_;refine yI ?_;refine Y42 ?_;refine Cq ?_ ?_
    ·intro h4
     have hm := hfm.1 (by simpa using h4)
     have hnd : ¬ (ts.map (·.1)).Nodup := fun hn => by
      have h2 : ((ts.take (i.1 + 1)).map (·.1)).Nodup := by rw [List.map_take]; exact hn.sublist (List.take_sublist _ _)
      exact (hdup.1 h2).2 hm
     refine Y10 ?_;refine Rq ?_;exact c7 (by simp [ad9, hlen, orE, hz1, bh9, hnd])
    ·intro h4
     have hm : ts[i.1].1 ∉ (ts.take i.1).map (·.1) := fun hm => by have := hfm.2 hm; simp at h4; omega
     have hnext : ((ts.take (i.1 + 1)).map (·.1)).Nodup := hdup.2 ⟨i.2, hm⟩
     refine Y99 ?_
     refine ⟨⟨i.1 + 1, hnext⟩, by show ts.length - (i.1 + 1) < ts.length - i.1; omega, i9 ?_ ?_⟩
     ·exact zE
     ·exact zH
   ·intro h3
    have hnd : (ts.map (·.1)).Nodup := by have := i.2; rwa [List.take_of_length_le (by simp at h3; omega)] at this
    refine Y63 ?_;refine Rq ?_;exact c7 (by simp [ad9, hlen, orE, hz1, bh9, hnd])
theorem az1 (ts : List KT) (t : Tm) : orE (ad9 ts 40) (n6 t 0 0) = d3 ts t := by
 unfold ad9 d3 orE
 split
 ·simp
 ·split
  ·split <;> simp
  ·rename_i h; simp [h]
theorem V9 (a b : Pu) (ts : List KT) (t : Tm) (hl : ts.length < 2^40) (hts : ∀ x ∈ ts, a8 x.2 < 2^40) (hN : a8 t < 2^40) : FCall Tryz.prog G 16 [.pu (wdP a b ts), .pu (tmc 0 t)] (iv .i64 (d3 ts t)) := by
 refine Fq 14 Tryz.func16 ?_;intro w0 M ρ0 D0
 refine Y91 ?_;refine Y14 ?_;refine Dq (bI8 ts 40 hl hts) ?_;refine Y52 ?_;refine Cq ?_ ?_
 ·intro h0
  refine Y88 ?_;refine Rq ?_;exact c7 (by rw [← az1]; have h0' : ad9 ts 40 ≠ 0 := (by simpa using h0); simp [orE, h0'])
 ·intro h0
  refine Y72 ?_;refine Dq (bc2 t hN 0 0) ?_;refine Y2 ?_;refine Rq ?_;exact c7 (by rw [← az1]; have h0' : ad9 ts 40 = 0 := (by simpa using h0); simp [orE, h0'])
end
end Go.Proofs.YtkcgkignhpepkaaGreatDoor
