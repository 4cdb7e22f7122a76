/- Part 5 of the proof: lemmas on walks and the walks of the functions, in their order. -/
import Derived.Test.YtkcgkignhpepkaaGreatDoorZ4
import Derived.Test.YtkcgkignhpepkaaGreatDoorRows
import Derived.Test.YtkcgkignhpepkaaGreatDoorCards
import Derived.Test.YtkcgkignhpepkaaGreatDoorTie
import Derived.WalkKit
import Derived.ProofKit
import Derived.OpenShut
import Derived.Lib.LaidTab
import Derived.LaidSub
import Derived.Deep.DeepHandedRow
set_option linter.unusedSimpArgs false
set_option linter.unusedVariables false
set_option linter.unusedSectionVars false
set_option linter.constructorNameAsVariable false
/- The place of work: found. -/
namespace Go.Proofs.YtkcgkignhpepkaaGreatDoor
open Go Hs
section
variable {G : List (Nat × TypeId × Pu)}
def j5 (k : Int) (n : Nat) : Nat := if k = 4 ∨ k = 10 ∨ k = 8 then n else if k = 5 ∨ k = 9 ∨ k = 11 ∨ k = 12 then 1 else 0
abbrev woO (k : Int) (n : Int) (r : List Int) (ks : List Tm) (cs : List Cs) : List (Nat × Ob) := [(811, .var 3 (iv .i64 (j5 k ks.length : Nat))), (812, .var 32 (.pu (tmc 0 (.mk k n r ks cs))))]
abbrev woV : PV := .fn (.func 242) [] [.ptr 811 [] 3, .ptr 812 [] 32]
theorem r5 {P : Program} {k : Int} {n : Nat} {x : Int} (h : x = (j5 k n : Nat)) : ObImp P (.var 3 (iv .i64 x)) (.var 3 (iv .i64 (j5 k n : Nat))) := cd0 h
theorem bu3 (k n : Int) (r : List Int) (ks : List Tm) (cs : List Cs) : HCall Tryz.prog G 219 [.pu (tmc 0 (.mk k n r ks cs))] [] [] woV (woO k n r ks cs) [812, 811] := by
 refine HCall.of_triD tbl 19 [] Tryz.func219 rfl rfl rfl fun w0 M ρ0 D0 => ?_
 refine yR ?_;refine o9 SS 812 ?_;refine yB ?_;refine a6 [812] ?_;refine yR ?_;refine a8 SS 811 ?_;refine yS ?_;refine a6 [811] ?_;refine Y14 ?_;refine Y0 ?_;refine Tri.block ?_;refine Y16 ?_;refine Cq ?_ ?_
 ·intro h0
  refine Y18 ?_;refine Cq ?_ ?_
  ·intro h2
   refine Y22 ?_;refine yC ?_;refine Y70 ?_;exact Tri.ret ⟨.inr rfl, A9 rfl b6 (VImp.refl _), .cons rfl (r5 (by simp only [beq_iff_eq, beq_eq_false_iff_ne, ne_eq] at *; first | (simp_all [j5, a7]; done) | (simp only [a7]; simp_all [j5]))) (.cons rfl (ObImp.refl _) .nil)⟩
  ·intro h2
   refine Y16 ?_;refine Cq ?_ ?_
   ·intro h3
    refine Y18 ?_;refine Cq ?_ ?_
    ·intro h6
     refine yR ?_;refine Y70 ?_;exact Tri.ret ⟨.inr rfl, A9 rfl b6 (VImp.refl _), .cons rfl (r5 (by simp only [beq_iff_eq, beq_eq_false_iff_ne, ne_eq] at *; first | (simp_all [j5, a7]; done) | (simp only [a7]; simp_all [j5]))) (.cons rfl (ObImp.refl _) .nil)⟩
    ·intro h6
     refine Tri.skip ?_;refine Y35 ?_;exact Tri.ret ⟨.inr rfl, A9 rfl b6 (VImp.refl _), .cons rfl (r5 (by simp only [beq_iff_eq, beq_eq_false_iff_ne, ne_eq] at *; first | (simp_all [j5, a7]; done) | (simp only [a7]; simp_all [j5]))) (.cons rfl (ObImp.refl _) .nil)⟩
   ·intro h3
    refine Y16 ?_;refine Cq ?_ ?_
    ·intro h4
     refine Y18 ?_;refine Cq ?_ ?_
     ·intro h6
      refine yR ?_;refine Y70 ?_;exact Tri.ret ⟨.inr rfl, A9 rfl b6 (VImp.refl _), .cons rfl (r5 (by simp only [beq_iff_eq, beq_eq_false_iff_ne, ne_eq] at *; first | (simp_all [j5, a7]; done) | (simp only [a7]; simp_all [j5]))) (.cons rfl (ObImp.refl _) .nil)⟩
     ·intro h6
      refine Tri.skip ?_;refine Y35 ?_;exact Tri.ret ⟨.inr rfl, A9 rfl b6 (VImp.refl _), .cons rfl (r5 (by simp only [beq_iff_eq, beq_eq_false_iff_ne, ne_eq] at *; first | (simp_all [j5, a7]; done) | (simp only [a7]; simp_all [j5]))) (.cons rfl (ObImp.refl _) .nil)⟩
    ·intro h4
     refine Y16 ?_;refine Cq ?_ ?_
     ·intro h5
      refine Y18 ?_;refine Cq ?_ ?_
      ·intro h6
       refine yR ?_;refine Y70 ?_;exact Tri.ret ⟨.inr rfl, A9 rfl b6 (VImp.refl _), .cons rfl (r5 (by simp only [beq_iff_eq, beq_eq_false_iff_ne, ne_eq] at *; first | (simp_all [j5, a7]; done) | (simp only [a7]; simp_all [j5]))) (.cons rfl (ObImp.refl _) .nil)⟩
      ·intro h6
       refine Tri.skip ?_;refine Y35 ?_;exact Tri.ret ⟨.inr rfl, A9 rfl b6 (VImp.refl _), .cons rfl (r5 (by simp only [beq_iff_eq, beq_eq_false_iff_ne, ne_eq] at *; first | (simp_all [j5, a7]; done) | (simp only [a7]; simp_all [j5]))) (.cons rfl (ObImp.refl _) .nil)⟩
     ·intro h5
      refine Y16 ?_;refine Cq ?_ ?_
      ·intro h6
       refine yR ?_;refine Y70 ?_;exact Tri.ret ⟨.inr rfl, A9 rfl b6 (VImp.refl _), .cons rfl (r5 (by simp only [beq_iff_eq, beq_eq_false_iff_ne, ne_eq] at *; first | (simp_all [j5, a7]; done) | (simp only [a7]; simp_all [j5]))) (.cons rfl (ObImp.refl _) .nil)⟩
      ·intro h6
       refine Tri.skip ?_;refine Y35 ?_;exact Tri.ret ⟨.inr rfl, A9 rfl b6 (VImp.refl _), .cons rfl (r5 (by simp only [beq_iff_eq, beq_eq_false_iff_ne, ne_eq] at *; first | (simp_all [j5, a7]; done) | (simp only [a7]; simp_all [j5]))) (.cons rfl (ObImp.refl _) .nil)⟩
 ·intro h0
  refine Y16 ?_;refine Cq ?_ ?_
  ·intro h1
   refine Y18 ?_;refine Cq ?_ ?_
   ·intro h2
    refine Y22 ?_;refine yC ?_;refine Y70 ?_;exact Tri.ret ⟨.inr rfl, A9 rfl b6 (VImp.refl _), .cons rfl (r5 (by simp only [beq_iff_eq, beq_eq_false_iff_ne, ne_eq] at *; first | (simp_all [j5, a7]; done) | (simp only [a7]; simp_all [j5]))) (.cons rfl (ObImp.refl _) .nil)⟩
   ·intro h2
    refine Y16 ?_;refine Cq ?_ ?_
    ·intro h3
     refine Y18 ?_;refine Cq ?_ ?_
     ·intro h6
      refine yR ?_;refine Y70 ?_;exact Tri.ret ⟨.inr rfl, A9 rfl b6 (VImp.refl _), .cons rfl (r5 (by simp only [beq_iff_eq, beq_eq_false_iff_ne, ne_eq] at *; first | (simp_all [j5, a7]; done) | (simp only [a7]; simp_all [j5]))) (.cons rfl (ObImp.refl _) .nil)⟩
     ·intro h6
      refine Tri.skip ?_;refine Y35 ?_;exact Tri.ret ⟨.inr rfl, A9 rfl b6 (VImp.refl _), .cons rfl (r5 (by simp only [beq_iff_eq, beq_eq_false_iff_ne, ne_eq] at *; first | (simp_all [j5, a7]; done) | (simp only [a7]; simp_all [j5]))) (.cons rfl (ObImp.refl _) .nil)⟩
    ·intro h3
     refine Y16 ?_;refine Cq ?_ ?_
     ·intro h4
      refine Y18 ?_;refine Cq ?_ ?_
      ·intro h6
       refine yR ?_;refine Y70 ?_;exact Tri.ret ⟨.inr rfl, A9 rfl b6 (VImp.refl _), .cons rfl (r5 (by simp only [beq_iff_eq, beq_eq_false_iff_ne, ne_eq] at *; first | (simp_all [j5, a7]; done) | (simp only [a7]; simp_all [j5]))) (.cons rfl (ObImp.refl _) .nil)⟩
      ·intro h6
       refine Tri.skip ?_;refine Y35 ?_;exact Tri.ret ⟨.inr rfl, A9 rfl b6 (VImp.refl _), .cons rfl (r5 (by simp only [beq_iff_eq, beq_eq_false_iff_ne, ne_eq] at *; first | (simp_all [j5, a7]; done) | (simp only [a7]; simp_all [j5]))) (.cons rfl (ObImp.refl _) .nil)⟩
     ·intro h4
      refine Y16 ?_;refine Cq ?_ ?_
      ·intro h5
       refine Y18 ?_;refine Cq ?_ ?_
       ·intro h6
        refine yR ?_;refine Y70 ?_;exact Tri.ret ⟨.inr rfl, A9 rfl b6 (VImp.refl _), .cons rfl (r5 (by simp only [beq_iff_eq, beq_eq_false_iff_ne, ne_eq] at *; first | (simp_all [j5, a7]; done) | (simp only [a7]; simp_all [j5]))) (.cons rfl (ObImp.refl _) .nil)⟩
       ·intro h6
        refine Tri.skip ?_;refine Y35 ?_;exact Tri.ret ⟨.inr rfl, A9 rfl b6 (VImp.refl _), .cons rfl (r5 (by simp only [beq_iff_eq, beq_eq_false_iff_ne, ne_eq] at *; first | (simp_all [j5, a7]; done) | (simp only [a7]; simp_all [j5]))) (.cons rfl (ObImp.refl _) .nil)⟩
      ·intro h5
       refine Y16 ?_;refine Cq ?_ ?_
       ·intro h6
        refine yR ?_;refine Y70 ?_;exact Tri.ret ⟨.inr rfl, A9 rfl b6 (VImp.refl _), .cons rfl (r5 (by simp only [beq_iff_eq, beq_eq_false_iff_ne, ne_eq] at *; first | (simp_all [j5, a7]; done) | (simp only [a7]; simp_all [j5]))) (.cons rfl (ObImp.refl _) .nil)⟩
       ·intro h6
        refine Tri.skip ?_;refine Y35 ?_;exact Tri.ret ⟨.inr rfl, A9 rfl b6 (VImp.refl _), .cons rfl (r5 (by simp only [beq_iff_eq, beq_eq_false_iff_ne, ne_eq] at *; first | (simp_all [j5, a7]; done) | (simp only [a7]; simp_all [j5]))) (.cons rfl (ObImp.refl _) .nil)⟩
  ·intro h1
   refine Y16 ?_;refine Cq ?_ ?_
   ·intro h2
    refine Y22 ?_;refine yC ?_;refine Y70 ?_;exact Tri.ret ⟨.inr rfl, A9 rfl b6 (VImp.refl _), .cons rfl (r5 (by simp only [beq_iff_eq, beq_eq_false_iff_ne, ne_eq] at *; first | (simp_all [j5, a7]; done) | (simp only [a7]; simp_all [j5]))) (.cons rfl (ObImp.refl _) .nil)⟩
   ·intro h2
    refine Y16 ?_;refine Cq ?_ ?_
    ·intro h3
     refine Y18 ?_;refine Cq ?_ ?_
     ·intro h6
      refine yR ?_;refine Y70 ?_;exact Tri.ret ⟨.inr rfl, A9 rfl b6 (VImp.refl _), .cons rfl (r5 (by simp only [beq_iff_eq, beq_eq_false_iff_ne, ne_eq] at *; first | (simp_all [j5, a7]; done) | (simp only [a7]; simp_all [j5]))) (.cons rfl (ObImp.refl _) .nil)⟩
     ·intro h6
      refine Tri.skip ?_;refine Y35 ?_;exact Tri.ret ⟨.inr rfl, A9 rfl b6 (VImp.refl _), .cons rfl (r5 (by simp only [beq_iff_eq, beq_eq_false_iff_ne, ne_eq] at *; first | (simp_all [j5, a7]; done) | (simp only [a7]; simp_all [j5]))) (.cons rfl (ObImp.refl _) .nil)⟩
    ·intro h3
     refine Y16 ?_;refine Cq ?_ ?_
     ·intro h4
      refine Y18 ?_;refine Cq ?_ ?_
      ·intro h6
       refine yR ?_;refine Y70 ?_;exact Tri.ret ⟨.inr rfl, A9 rfl b6 (VImp.refl _), .cons rfl (r5 (by simp only [beq_iff_eq, beq_eq_false_iff_ne, ne_eq] at *; first | (simp_all [j5, a7]; done) | (simp only [a7]; simp_all [j5]))) (.cons rfl (ObImp.refl _) .nil)⟩
      ·intro h6
       refine Tri.skip ?_;refine Y35 ?_;exact Tri.ret ⟨.inr rfl, A9 rfl b6 (VImp.refl _), .cons rfl (r5 (by simp only [beq_iff_eq, beq_eq_false_iff_ne, ne_eq] at *; first | (simp_all [j5, a7]; done) | (simp only [a7]; simp_all [j5]))) (.cons rfl (ObImp.refl _) .nil)⟩
     ·intro h4
      refine Y16 ?_;refine Cq ?_ ?_
      ·intro h5
       refine Y18 ?_;refine Cq ?_ ?_
       ·intro h6
        refine yR ?_;refine Y70 ?_;exact Tri.ret ⟨.inr rfl, A9 rfl b6 (VImp.refl _), .cons rfl (r5 (by simp only [beq_iff_eq, beq_eq_false_iff_ne, ne_eq] at *; first | (simp_all [j5, a7]; done) | (simp only [a7]; simp_all [j5]))) (.cons rfl (ObImp.refl _) .nil)⟩
       ·intro h6
        refine Tri.skip ?_;refine Y35 ?_;exact Tri.ret ⟨.inr rfl, A9 rfl b6 (VImp.refl _), .cons rfl (r5 (by simp only [beq_iff_eq, beq_eq_false_iff_ne, ne_eq] at *; first | (simp_all [j5, a7]; done) | (simp only [a7]; simp_all [j5]))) (.cons rfl (ObImp.refl _) .nil)⟩
      ·intro h5
       refine Y16 ?_;refine Cq ?_ ?_
       ·intro h6
        refine yR ?_;refine Y70 ?_;exact Tri.ret ⟨.inr rfl, A9 rfl b6 (VImp.refl _), .cons rfl (r5 (by simp only [beq_iff_eq, beq_eq_false_iff_ne, ne_eq] at *; first | (simp_all [j5, a7]; done) | (simp only [a7]; simp_all [j5]))) (.cons rfl (ObImp.refl _) .nil)⟩
       ·intro h6
        refine Tri.skip ?_;refine Y35 ?_;exact Tri.ret ⟨.inr rfl, A9 rfl b6 (VImp.refl _), .cons rfl (r5 (by simp only [beq_iff_eq, beq_eq_false_iff_ne, ne_eq] at *; first | (simp_all [j5, a7]; done) | (simp only [a7]; simp_all [j5]))) (.cons rfl (ObImp.refl _) .nil)⟩
abbrev plO (acc : List Nat) (t : Tm) : List (Nat × Ob) := [(1, .var 32 (.pu (tmc 0 t))), (3, .var 39 (.ow 0 3 (F5 acc)))]
structure Wi where
 i : Nat
 t : Tm
def wiL (t : Tm) : List Wi := match t with
 | .mk k _ _ ks _ => (ks.take (j5 k ks.length)).mapIdx fun i x => ⟨i, x⟩
def wiE (x : Wi) : List PV := [iv .i64 x.i, .pu (tmc 0 x.t)]
def ak5 (x : Wi) : Option Wi := if P2 x.t then none else some x
def wOb (acc : List Nat) (x : Wi) : List (Nat × Ob) := plO (acc ++ [x.i]) x.t
def rOfX (c : Code) (r : Loop) : Option Wi → Loop
 | none => r
 | some _ => aE3 r c
def aOf (acc : List Nat) : Option Wi → List Nat
 | none => acc
 | some x => acc ++ [x.i]
def tOf (t : Tm) : Option Wi → Tm
 | none => t
 | some x => x.t
theorem yc_w {P : Program} {X : Ctx} {l lam : Nat} {r : Loop} {HR : List (Nat × Ob)} {out : Wi → Option Wi} {acc : List Nat} {t : Tm} {c : Code} {x : Wi} (h : YC P X l lam r HR (plO acc t) wiE out (fun _ => c) (wOb acc) x) :
  aW2 P X l (wiE x) HR ((lam, .loop r) :: plO acc t) (bv (out x).isNone) [(lam, .loop (rOfX c r (out x))), (1, .var 32 (.pu (tmc 0 (tOf t (out x))))), (3, .var 39 (.ow 0 3 (F5 (aOf acc (out x)))))] := by
 unfold YC at h
 cases ho : out x with
 | none => rw [ho] at h; exact h
 | some e => rw [ho] at h; exact h
theorem bm1 (k n : Int) (r : List Int) (ks : List Tm) (cs : List Cs) (hm : j5 k ks.length ≤ ks.length) (hl : ks.length < 2^40) (acc : List Nat) (out : Wi → Option Wi) :
  IterC Tryz.prog G 242 [.ptr 811 [] 3, .ptr 812 [] 32] 900 [811, 812, 1, 3, 900] (woO k n r ks cs) (plO acc (.mk k n r ks cs)) (wiL (.mk k n r ks cs)) wiE out (fun _ => .exit 1) (wOb acc) := by
 refine IterC.of_tri tbl 19 Tryz.func242 rfl rfl (fun r z => by cases z <;> rfl) fun l rc w0 M ρ0 D0 hy => ?_
 have hL : (wiL (.mk k n r ks cs)).length = j5 k ks.length := by simp [wiL]; omega
 have hk : ∀ i (hi : i < j5 k ks.length), (wiL (.mk k n r ks cs))[i]'(by omega) = ⟨i, ks[i]'(by omega)⟩ := fun i hi => by simp [wiL]
 refine Y5 ?_;refine Y31 ?_;refine Tri.block (Tri.loopW (σ := {i : Nat // ∀ j (hj : j < i) (h : j < j5 k ks.length), out ⟨j, ks[j]'(by omega)⟩ = none}) (fun i => ⟨[(0, .fn (.yield l) [] []), (2, .ptr 812 [] 32), (5, iv .i64 (j5 k ks.length : Nat)), (6, iv .i64 i.1)], [(811, .var 3 (iv .i64 (j5 k ks.length : Nat))), (812, .var 32 (.pu (tmc 0 (.mk k n r ks cs)))), (900, .loop rc), (1, .var 32 (.pu (tmc 0 (.mk k n r ks cs)))), (3, .var 39 (.ow 0 3 (F5 acc)))]⟩) (fun i => j5 k ks.length - i.1) ⟨0, by intro j hj; omega⟩ ?_ ?_ (fun i => ?_))
 ·exact zW
 ·exact zW
 refine Y30 ?_;refine Cq ?_ ?_
 ·intro h0
  have hi : i.1 < j5 k ks.length := by simpa using h0
  have hi' : i.1 < ks.length := by omega
  have hy' := yc_w (hy ⟨i.1, ks[i.1]⟩ (by rw [← hk i.1 hi]; exact List.getElem_mem _))
  refine Y57 ?_;refine Y12 ?_;refine Y32 ?_;refine Y8 ?_;refine yM ?_;refine b5 (j6 SS (h0 := by omega) (hp := B6 hi')) ?_;refine yL ?_;refine aG6 hy' ?_;refine yQ ?_;refine Y0 ?_;refine Cq ?_ ?_
  ·intro h1
   obtain ⟨e, he⟩ : ∃ e, out ⟨i.1, ks[i.1]⟩ = some e := by
    cases ho : out ⟨i.1, ks[i.1]⟩ with
    | none => rw [ho] at h1; cases h1
    | some e => exact ⟨e, rfl⟩
   have hfin : (wiL (.mk k n r ks cs)).findSome? out = some e := aI8 (i := i.1) (by rw [hL]; omega) (fun j hj => by rw [hk j (by omega)]; exact i.2 j hj (by omega)) (by rw [hk i.1 hi]; exact he)
   rw [hfin];refine tQ ?_;exact Tri.ret ⟨.inr rfl, bz0, .cons rfl (by rw [he]; exact ObImp.refl _) (.cons rfl (by rw [he]; exact ObImp.refl _) (.cons rfl (by rw [he]; exact ObImp.refl _) .nil))⟩
  ·intro h1
   have he : out ⟨i.1, ks[i.1]⟩ = none := by
    cases ho : out ⟨i.1, ks[i.1]⟩ with
    | none => rfl
    | some e => rw [ho] at h1; cases h1
   have hnext : ∀ j (hj : j < i.1 + 1) (h : j < j5 k ks.length), out ⟨j, ks[j]'(by omega)⟩ = none := fun j hj h => by
    rcases Nat.lt_or_ge j i.1 with h' | h'
    ·exact i.2 j h' h
    ·obtain rfl : j = i.1 := by omega
     exact he
   refine Y52 ?_
   refine ⟨⟨i.1 + 1, hnext⟩, by show j5 k ks.length - (i.1 + 1) < j5 k ks.length - i.1; omega, k7 ?_ ?_⟩
   ·repeat (first | exact SubE.nil | refine SubE.cons rfl (by first | rfl | (rw [b4 (by omega) (by omega)]; rfl) | (rw [he]; rfl)) ?_)
   ·repeat (first | exact SubH.nil | refine SubH.cons rfl (by first | rfl | (rw [b4 (by omega) (by omega)]; rfl) | (rw [he]; rfl)) ?_)
 ·intro h0
  have hfin : (wiL (.mk k n r ks cs)).findSome? out = none := aD6 fun j hj => by
   rw [hL] at hj
   rw [hk j hj]; exact i.2 j (by simp at h0; omega) hj
  rw [hfin];refine Tri.exit ?_;exact ⟨.inl rfl, bz0, .cons rfl (ObImp.refl _) (.cons rfl (ObImp.refl _) (.cons rfl (ObImp.refl _) .nil))⟩
end
section
variable {G : List (Nat × TypeId × Pu)}
mutual
def shT : Tm → Prop
 | .mk k n _ ks cs => s8 k ks.length = true ∧ (k = 11 → 0 ≤ n ∧ n ≤ 7) ∧ shL ks ∧ shC cs
def shL : List Tm → Prop
 | [] => True
 | t :: ts => shT t ∧ shL ts
def shC : List Cs → Prop
 | [] => True
 | c :: cs => shS c ∧ shC cs
def shS : Cs → Prop
 | .mk _ t => shT t
end
theorem aF9 : ∀ {ks : List Tm}, shL ks → ∀ k ∈ ks, shT k
 | [], _, k, h => by cases h
 | p :: ps, h, k, hk => by
  rcases List.mem_cons.1 hk with rfl | hk
  ·exact h.1
  ·exact aF9 h.2 k hk
theorem bM7 {k : Int} {n : Nat} (h : s8 k n = true) : j5 k n ≤ n := by
 unfold j5
 split
 ·omega
 ·split
  ·rename_i h1
   unfold s8 B9 at h
   rcases h1 with rfl | rfl | rfl | rfl <;> simp at h <;> omega
  ·omega
mutual
def d9 : Tm → List Nat
 | .mk k _ _ ks _ => I3 (j5 k ks.length) 0 ks
def I3 (many i : Nat) : List Tm → List Nat
 | [] => []
 | t :: ts => if i < many then (if P2 t then I3 many (i + 1) ts else i :: d9 t) else []
end
mutual
theorem al3 : ∀ t : Tm, (d9 t).length + 1 ≤ a5 t
 | .mk k _ _ ks cs => by
  have := au7 (j5 k ks.length) 0 ks
  simp only [d9, a5]; omega
theorem au7 (many i : Nat) : ∀ ks : List Tm, (I3 many i ks).length ≤ c7 ks
 | [] => by simp [I3]
 | t :: ts => by
  have h1 := al3 t
  have h2 := au7 many (i + 1) ts
  simp only [I3, c7]
  split
  ·split
   ·omega
   ·simp; omega
  ·simp
end
theorem zP (many : Nat) : ∀ (ks : List Tm) (i : Nat), match ((ks.take (many - i)).mapIdx fun j x => (⟨i + j, x⟩ : Wi)).findSome? ak5 with
  | none => I3 many i ks = []
  | some z => I3 many i ks = z.i :: d9 z.t ∧ i ≤ z.i ∧ ks[z.i - i]? = some z.t ∧ P2 z.t = false
 | [], i => by simp [I3]
 | t :: ts, i => by
  by_cases hi : i < many
  ·obtain ⟨d, hd⟩ : ∃ d, many - i = d + 1 := ⟨many - i - 1, by omega⟩
   have ih := zP many ts (i + 1)
   rw [show many - (i + 1) = d by omega] at ih
   rw [hd]
   simp only [List.take_succ_cons, List.mapIdx_cons, List.findSome?_cons, Nat.add_zero, I3, if_pos hi]
   have e : (fun (j : Nat) (x : Tm) => (⟨i + (j + 1), x⟩ : Wi)) = fun j x => ⟨i + 1 + j, x⟩ := by funext j x; rw [show i + (j + 1) = i + 1 + j by omega]
   rw [e]
   by_cases hv : P2 t = true
   ·rw [show ak5 ⟨i, t⟩ = none by simp [ak5, hv]]
    simp only [hv, if_true]
    generalize hq : ((ts.take d).mapIdx fun j x => (⟨i + 1 + j, x⟩ : Wi)).findSome? ak5 = q at ih ⊢
    cases q with
    | none => exact ih
    | some z =>
     obtain ⟨h1, h2, h3, h4⟩ := ih
     refine ⟨h1, by omega, ?_, h4⟩
     rw [show z.i - i = (z.i - (i + 1)) + 1 by omega]
     simpa using h3
   ·rw [show ak5 ⟨i, t⟩ = some ⟨i, t⟩ by simp [ak5, hv]]
    simp [hv]
  ·rw [show many - i = 0 by omega]
   simp [I3, hi]
theorem ba1 {k n : Int} {r : List Int} {ks : List Tm} {cs : List Cs} (h : (wiL (.mk k n r ks cs)).findSome? ak5 = none) : d9 (.mk k n r ks cs) = [] := by
 have := zP (j5 k ks.length) ks 0
 simp only [Nat.sub_zero, Nat.zero_add] at this
 unfold wiL at h
 rw [h] at this
 exact this
theorem ba0 {k n : Int} {r : List Int} {ks : List Tm} {cs : List Cs} {z : Wi} (h : (wiL (.mk k n r ks cs)).findSome? ak5 = some z) : d9 (.mk k n r ks cs) = z.i :: d9 z.t ∧ ks[z.i]? = some z.t ∧ P2 z.t = false := by
 have := zP (j5 k ks.length) ks 0
 simp only [Nat.sub_zero, Nat.zero_add] at this
 unfold wiL at h
 rw [h] at this
 exact ⟨this.1, this.2.2⟩
theorem aH0 (a b : List Nat) : F5 (a ++ b) = F5 a ++ F5 b := by simp [F5]
theorem bV0 {k n : Int} {r : List Int} {ks : List Tm} {cs : List Cs} {x : Wi} (h : x ∈ wiL (.mk k n r ks cs)) : x.t ∈ ks := by
 unfold wiL at h
 obtain ⟨i, hi, rfl⟩ := List.mem_mapIdx.1 h
 exact List.mem_of_mem_take (List.getElem_mem _)
theorem bL4 (t0 : Tm) (hs0 : shT t0) (hN : a5 t0 < 2^30) : FCall Tryz.prog G 150 [.pu (tmc 0 t0)] (.pu (.sl 0 3 (F5 (d9 t0)))) := by
 have hpl := al3 t0
 refine Fq 19 Tryz.func150 ?_;intro w0 M ρ0 D0
 refine Y44 ?_;refine yB ?_;refine a6 [1] ?_;refine tQ ?_;refine Tri.scope ?_;refine yR ?_;refine a8 SS 3 ?_;refine a6 [3] ?_;refine tQ ?_;refine Tri.label ?_;refine tQ ?_;refine Tri.block (Tri.loopW (σ := {q : List Nat × Tm // q.1 ++ d9 q.2 = d9 t0 ∧ shT q.2 ∧ a5 q.2 ≤ a5 t0}) (fun i => ⟨[(1, .ptr 1 [] 32), (3, .ptr 3 [] 39)], [(1, .var 32 (.pu (tmc 0 i.1.2))), (3, .var 39 (.ow 0 3 (F5 i.1.1)))]⟩) (fun i => a5 i.1.2) ⟨([], t0), rfl, hs0, Nat.le_refl _⟩ ?_ ?_ (fun i => ?_))
 ·exact zW
 ·exact zW
 refine Y77 ?_
 obtain ⟨⟨acc, k, n, r, ks, cs⟩, hacc, hsh, hsz⟩ := i
 dsimp only at hacc hsh hsz ⊢
 have hsz' := hsz
 simp only [shT] at hsh
 simp only [a5] at hsz'
 have hlen := l8 ks
 have hal := congrArg List.length hacc
 simp only [List.length_append] at hal
 refine Y5 ?_;refine a9 (bu3 k n r ks cs) ?_;refine a6 [812, 811] ?_;refine Y77 ?_;refine tQ ?_;refine Tri.overFunc 900 [811, 812, 1, 3, 900] [1, 3, 900] [(1, .ptr 1 [] 32), (3, .ptr 3 [] 39)] (bm1 k n r ks cs (bM7 hsh.1) (by omega) acc ak5) (by intro x _; rfl) (fun x hx r w0 M ρ0 D0 l => ?_) (fun hdone => ?_) (fun z hz => ?_)
 ·skip
  refine yR ?_;refine Y12 ?_;refine yR ?_;refine a8 SS 5 ?_;refine yS ?_;refine a6 [5] ?_
  refine ⟨rfl, ?_⟩
  have hxm := w8 (bV0 hx)
  refine Y77 ?_;refine Y5 ?_;refine Dq (aF1 _ x.t (Nat.le_refl _) (by omega)) ?_;refine yQ ?_;refine Y0 ?_;refine Cq ?_ ?_
  ·intro h0
   have ho : ak5 x = some x := by simp at h0; simp [ak5, h0]
   refine yR ?_;refine yK ?_;refine yM ?_;refine yZ ?_;refine O1 3 [] ?_ ?_
   ·simp [B8]; omega
   refine yL ?_;refine yW ?_;refine yS ?_;refine x8 ?_;refine Tri.exit ?_
   refine ⟨rfl, ?_, ?_⟩
   ·rw [ho]; rfl
   ·rw [ho]; exact .cons rfl (ObImp.refl _) (.cons rfl (by rw [aH0]; exact ObImp.refl _) .nil)
  ·intro h0
   have ho : ak5 x = none := by simp at h0; simp [ak5, h0]
   refine Tri.skip ?_
   refine ⟨rfl, ?_, ?_⟩
   ·rw [ho]; rfl
   ·rw [ho]; exact .cons rfl (ObImp.refl _) (.cons rfl (ObImp.refl _) .nil)
 ·skip
  have hfin : d9 t0 = acc := by rw [← hacc, ba1 hdone, List.append_nil]
  refine yR ?_;refine yK ?_;refine Y2 ?_;refine Rq ?_;exact (by rw [hfin]; exact ToPu.imp (by repeat constructor))
 ·skip
  obtain ⟨hp1, hp2, hp3⟩ := ba0 hz
  have hzm := List.mem_of_getElem? hp2
  have hzs := w8 hzm
  refine Tri.exit ?_
  refine ⟨⟨(acc ++ [z.i], z.t), by rw [← hacc, hp1]; simp, aF9 hsh.2.2.1 _ hzm, by show a5 z.t ≤ a5 t0; omega⟩, by show a5 z.t < a5 (.mk k n r ks cs); simp only [a5]; omega, k7 ?_ ?_⟩
  ·repeat (first | exact SubE.nil | refine SubE.cons rfl rfl ?_)
  ·repeat (first | exact SubH.nil | refine SubH.cons rfl rfl ?_)
end
section
variable {G : List (Nat × TypeId × Pu)}
def b8 : Tm → List Nat → Tm
 | t, [] => t
 | t, i :: p => match t.kids[i]? with
  | some x => b8 x p
  | none => t
def j4 : Tm → List Nat → List Tm
 | t, [] => [t]
 | t, i :: p => t :: match t.kids[i]? with
  | some x => j4 x p
  | none => []
def okP : Tm → List Nat → Prop
 | _, [] => True
 | t, i :: p => ∃ x, t.kids[i]? = some x ∧ okP x p
theorem E5 : ∀ {t : Tm} {p : List Nat}, okP t p → (j4 t p).length = p.length + 1
 | t, [], _ => rfl
 | t, i :: p, ⟨x, hx, h⟩ => by simp [j4, hx, E5 h]
theorem ak4 : ∀ {t : Tm} {p : List Nat} {i : Nat}, okP t p → i < p.length → ∃ x, (b8 t (p.take i)).kids[p[i]!]? = some x ∧ b8 t (p.take (i + 1)) = x ∧ j4 t (p.take (i + 1)) = j4 t (p.take i) ++ [x]
 | t, [], i, _, h => by simp at h
 | t, j :: p, 0, ⟨x, hx, h⟩, _ => ⟨x, by simp [b8, hx], by simp [b8, hx], by simp [j4, hx]⟩
 | t, j :: p, i + 1, ⟨x, hx, h⟩, hi => by
  obtain ⟨y, h1, h2, h3⟩ := ak4 (i := i) h (by simpa using hi)
  exact ⟨y, by simpa [b8, hx] using h1, by simpa [b8, hx] using h2, by simp [j4, hx, h3]⟩
theorem t7 : ∀ {t : Tm} {p : List Nat}, a5 (b8 t p) ≤ a5 t
 | t, [] => by simp [b8]
 | t, i :: p => by
  simp only [b8]
  split
  ·rename_i x hx
   have := t7 (t := x) (p := p)
   have h2 := w8 (List.mem_of_getElem? hx)
   obtain ⟨k, n, r, ks, cs⟩ := t
   simp only [Tm.kids, a5] at h2 ⊢
   omega
  ·omega
theorem bu5 : ∀ (t : Tm) (p : List Nat), (j4 t p).length ≤ p.length + 1
 | t, [] => by simp [j4]
 | t, i :: p => by
  simp only [j4, List.length_cons]
  split
  ·have := bu5 (by assumption) p; omega
  ·simp
mutual
theorem H5 : ∀ {t : Tm}, shT t → okP t (d9 t)
 | .mk k n r ks cs, h => by
  simp only [shT] at h
  simp only [d9]
  exact aC3 k n r ks cs ks 0 (fun j x hj => by simpa using hj) h.2.2.1
theorem aC3 (k n : Int) (r : List Int) (all : List Tm) (cs : List Cs) {many : Nat} : ∀ (ks : List Tm) (i : Nat), (∀ j x, ks[j]? = some x → all[i + j]? = some x) → shL ks → okP (.mk k n r all cs) (I3 many i ks)
 | [], i, _, _ => trivial
 | t :: ts, i, h, hs => by
  simp only [I3]
  split
  ·split
   ·exact aC3 k n r all cs ts (i + 1) (fun j x hj => by
     have := h (j + 1) x (by simpa using hj)
     rwa [show i + (j + 1) = i + 1 + j by omega] at this) hs.2
   ·exact ⟨t, by simpa [Tm.kids] using h 0 t rfl, H5 hs.1⟩
  ·trivial
end
theorem bj4 (t0 : Tm) (hs0 : shT t0) (hN : a5 t0 < 2^30) : FCall Tryz.prog G 93 [.pu (tmc 0 t0)] (.pu (E3 (d9 t0) (j4 t0 (d9 t0)))) := by
 have hpl := al3 t0
 have hok := H5 hs0
 refine Fq 31 Tryz.func93 ?_;intro w0 M ρ0 D0
 have hpc := bL4 (G := G) t0 hs0 hN
 generalize hp : d9 t0 = p at hpl hok hpc ⊢
 refine Y68 ?_;refine Y5 ?_;refine Dq hpc ?_;refine Y66 ?_;refine yP ?_;refine a8 SS 3 ?_;refine yS ?_;refine G6 [3] ?_;refine Y22 ?_;refine Y38 ?_;refine Tri.block (Tri.loopW (σ := Nat) (fun i => ⟨[(1, .ptr 1 [] 32), (2, .ptr 2 [] 147), (3, .ptr 3 [] 147), (12, .pu (.sl 0 3 (F5 p))), (13, iv .i64 (F5 p).length), (14, iv .i64 i)], [(1, .var 32 (.pu (tmc 0 (b8 t0 (p.take i))))), (2, .var 147 (.agg 147 [.nilc, .nilc])), (3, .var 147 (.agg 147 [.pu (.sl 0 3 (F5 p)), .ow 0 32 (l5 0 (j4 t0 (p.take i)))]))]⟩) (fun i => p.length - i) 0 ?_ ?_ (fun i => ?_))
 ·repeat (first | exact .nil | refine .cons rfl (by first | exact .refl | (focus ((repeat constructor); done)) | (exact .var (.agg (.cons .refl (.cons .xsOw .nil))))) ?_)
 ·repeat (first | exact .nil | refine .cons rfl (by first | exact .refl | (focus ((repeat constructor); done)) | (exact .var (.agg (.cons .refl (.cons .xsOw .nil))))) ?_)
 refine Y30 ?_;refine Cq ?_ ?_
 ·intro h0
  have hi : i < p.length := by rw [B8] at h0; simpa using h0
  obtain ⟨x, hx1, hx2, hx3⟩ := ak4 hok hi
  have hsz := t7 (t := t0) (p := p.take i)
  have hpg := ah8 hi
  rw [getElem!_pos p i hi] at hx1
  generalize p[i] = m at hx1 hpg
  have hwl : (j4 t0 (p.take i)).length ≤ i + 1 := by have := bu5 t0 (p.take i); simp at this; omega
  generalize b8 t0 (p.take i) = t at hx1 hsz ⊢
  obtain ⟨k, n, r, ks, cs⟩ := t
  simp only [Tm.kids] at hx1
  have hxg : (l5 0 ks)[m]? = some (tmc 0 x) := by simp [o8, hx1]
  refine Y76 ?_;refine Xq hpg ?_;refine yL ?_;refine Y12 ?_;refine Y22 ?_;refine yM ?_;refine Xq hxg ?_;refine yL ?_;refine Y17 ?_;refine Y22 ?_;refine Y66 ?_;refine O1 3 [1] ?_ ?_
  ·simp [a7]; omega
  refine yF ?_;refine yW ?_;refine A7 ?_;refine Y25 ?_
  refine ⟨i + 1, by omega, k7 ?_ ?_⟩
  ·repeat (first | exact SubE.nil | refine SubE.cons rfl (by first | rfl | (rw [b4 (by omega) (by omega)]; rfl) | (first | (rw [hx2]; done) | (rw [hx3, o8, o8, List.map_append]; rfl))) ?_)
  ·repeat (first | exact SubH.nil | refine SubH.cons rfl (by first | rfl | (rw [b4 (by omega) (by omega)]; rfl) | (first | (rw [hx2]; done) | (rw [hx3, o8, o8, List.map_append]; rfl))) ?_)
 ·intro h0
  have hi : p.length ≤ i := by rw [B8] at h0; simpa using h0
  rw [List.take_of_length_le hi];refine Tri.exit ?_;refine Y61 ?_;refine Rc ?_;exact ToPu.imp (by repeat constructor)
end
section
variable {G : List (Nat × TypeId × Pu)}
theorem y6 : ∀ {t : Tm} {p : List Nat} {i : Nat}, okP t p → i ≤ p.length → (j4 t p)[i]? = some (b8 t (p.take i))
 | t, [], 0, _, _ => by simp [j4, b8]
 | t, j :: p, 0, _, _ => by simp [j4, b8]
 | t, j :: p, i + 1, ⟨x, hx, h⟩, hi => by
  have := y6 (i := i) h (by simpa using hi)
  simpa [j4, b8, hx] using this
theorem aK8 {t : Tm} {p : List Nat} {i : Nat} (h : okP t p) (hi : i < p.length) : (b8 t (p.take i)).kids[p[i]]? = some (b8 t (p.take (i + 1))) := by
 obtain ⟨x, h1, h2, _⟩ := ak4 h hi
 rw [getElem!_pos p i hi] at h1
 rw [h2, h1]
theorem P5 {t : Tm} {p : List Nat} (h : okP t p) : ∀ i (hi : i < p.length), p[i] < ((j4 t p)[i]'(by rw [E5 h]; omega)).kids.length := fun i hi => by
 have h1 := y6 h (Nat.le_of_lt hi)
 have h2 := aK8 h hi
 rw [List.getElem?_eq_getElem (by rw [E5 h]; omega)] at h1
 simp only [Option.some.injEq] at h1
 rw [h1];exact (List.getElem?_eq_some_iff.1 h2).1
theorem T7 {t : Tm} {p : List Nat} (h : okP t p) : ∀ x ∈ j4 t p, a5 x ≤ a5 t := fun x hx => by
 obtain ⟨i, hi, rfl⟩ := List.getElem_of_mem hx
 have h1 := y6 h (i := i) (by rw [E5 h] at hi; omega)
 rw [List.getElem?_eq_getElem hi] at h1
 simp only [Option.some.injEq] at h1
 rw [h1];exact t7
theorem V5 (t : Tm) : t.kids.length < a5 t := by
 obtain ⟨k, n, r, ks, cs⟩ := t
 have := l8 ks
 simp only [Tm.kids, a5]; omega
theorem o7 {t x : Tm} {i : Nat} (h : t.kids[i]? = some x) : a5 x < a5 t := by
 obtain ⟨k, n, r, ks, cs⟩ := t
 have := w8 (List.mem_of_getElem? h)
 simp only [Tm.kids] at this
 simp only [a5]; omega
theorem I6 {t : Tm} {p : List Nat} (h : okP t p) : p.length < a5 t := by
 induction p generalizing t with
 | nil => have := r9 t; show 0 < a5 t; omega
 | cons i p ih =>
  obtain ⟨x, hx, h⟩ := h
  have := ih h
  have := o7 hx
  simp; omega
theorem as0 : ∀ {ks : List Tm} {j : Nat} {x y : Tm}, ks[j]? = some y → c7 (ks.set j x) + a5 y = c7 ks + a5 x
 | [], j, x, y, h => by simp at h
 | t :: ts, 0, x, y, h => by simp at h; subst h; simp [c7]; omega
 | t :: ts, j + 1, x, y, h => by
  have := as0 (ks := ts) (j := j) (x := x) (y := y) (by simpa using h)
  simp [c7]; omega
theorem ad2 {t : Tm} {p : List Nat} (h : okP t p) (lo : Nat) : ∀ (hi : Nat) (x : Tm), hi ≤ p.length → a5 (q7 (j4 t p) p lo hi x) ≤ a5 t + a5 x
 | 0, x, _ => by simp [q7]
 | n + 1, x, hn => by
  have key : ∀ (m : Nat) (y : Tm) (b : Nat), m ≤ p.length → a5 y + a5 (b8 t (p.take m)) ≤ b + a5 t + a5 (b8 t (p.take m)) → a5 y ≤ b + a5 (b8 t (p.take m)) → a5 (q7 (j4 t p) p lo m y) ≤ b + a5 t := by
   intro m
   induction m with
   | zero => intro y b _ _ h2; simpa [q7, b8] using h2
   | succ m ih =>
    intro y b hm h1 h2
    simp only [q7]
    split
    ·omega
    ·have hmp : m < p.length := by omega
     have hk := aK8 h hmp
     rw [y6 h (by omega), List.getElem?_eq_getElem hmp]
     simp only
     have hs : a5 (J3 (b8 t (p.take m)) p[m] y) + a5 (b8 t (p.take (m + 1))) = a5 (b8 t (p.take m)) + a5 y := by
      generalize b8 t (p.take m) = q at hk ⊢
      obtain ⟨k, n, r, ks, cs⟩ := q
      simp only [Tm.kids] at hk
      have := as0 (x := y) hk
      simp only [J3, a5]; omega
     have := t7 (t := t) (p := p.take m)
     exact ih _ b (by omega) (by omega) (by omega)
  have h1 := t7 (t := t) (p := p.take (n + 1))
  have := key (n + 1) x (a5 x) hn (by omega) (by omega)
  omega
theorem K9 (path : List Nat) (way : List Tm) (lo : Nat) (x : Tm) (h2 : path.length ≤ way.length) (hp : ∀ i (h : i < path.length), path[i] < way[i].kids.length) (hw : ∀ t ∈ way, t.kids.length < 2^30) (hl : path.length < 2^30) (hlo : lo < 2^40) :
  FCall Tryz.prog G 153 [.pu (E3 path way), .pu (.leaf (.int .i64 lo)), .pu (.leaf (.int .i64 (F5 path).length)), .pu (tmc 0 x)] (.pu (tmc 0 (q7 way path lo path.length x))) := by
 rw [B8]; exact aT1 path way lo path.length x (Nat.le_refl _) h2 hp hw hl hlo
theorem bR5 (t f x b : Tm) (h0 : t.kids[0]? = some f) (h1 : t.kids[1]? = some x) (h2 : f.kids[0]? = some b) (hN : a5 t < 2^30) : FCallN Tryz.prog G 155 [.pu (tmc 0 t)] (fun m => .pu (tmc m (A1 [x] 0 b))) := by
 have s0 := o7 h0
 have s1 := o7 h1
 have s2 := o7 h2
 obtain ⟨k, n, r, ks, cs⟩ := t
 obtain ⟨k', n', r', ks', cs'⟩ := f
 simp only [Tm.kids] at h0 h1 h2
 have g0 : (l5 0 ks)[0]? = some (tmc 0 (.mk k' n' r' ks' cs')) := by simp [o8, h0]
 have g1 : (l5 0 ks)[1]? = some (tmc 0 x) := by simp [o8, h1]
 have g2 : (l5 0 ks')[0]? = some (tmc 0 b) := by simp [o8, h2]
 refine FCallN.of_tri tbl 16 Tryz.func155 rfl rfl (fun _ => rfl) fun w0 M ρ0 D0 hM => ?_
 refine Y68 ?_;refine Y22 ?_;refine Xq g0 ?_;refine Y8 ?_;refine Xq g2 ?_;refine yL ?_;refine Y8 ?_;refine Xq g1 ?_;refine Y66 ?_;refine b5 (F2 (fun m n h => (E6 h _).imp) (fun _ => aN6 [x] (by simp) (fun v hv => by simp at hv; subst hv; omega) b (by omega))) ?_;refine Y29 ?_;refine Rc ?_;exact ToPu.imp (by repeat constructor)
theorem bR3 (t x b : Tm) (h0 : t.kids[0]? = some x) (h1 : t.kids[1]? = some b) (hN : a5 t < 2^30) : FCallN Tryz.prog G 157 [.pu (tmc 0 t)] (fun m => .pu (tmc m (A1 [x] 0 b))) := by
 have s0 := o7 h0
 have s1 := o7 h1
 obtain ⟨k, n, r, ks, cs⟩ := t
 simp only [Tm.kids] at h0 h1
 have g0 : (l5 0 ks)[0]? = some (tmc 0 x) := by simp [o8, h0]
 have g1 : (l5 0 ks)[1]? = some (tmc 0 b) := by simp [o8, h1]
 refine FCallN.of_tri tbl 13 Tryz.func157 rfl rfl (fun _ => rfl) fun w0 M ρ0 D0 hM => ?_
 refine Y68 ?_;refine Y22 ?_;refine Xq g1 ?_;refine yL ?_;refine Y8 ?_;refine Xq g0 ?_;refine Y66 ?_;refine b5 (F2 (fun m n h => (E6 h _).imp) (fun _ => aN6 [x] (by simp) (fun v hv => by simp at hv; subst hv; omega) b (by omega))) ?_;refine Y29 ?_;refine Rc ?_;exact ToPu.imp (by repeat constructor)
theorem bR2 (t x b : Tm) (h0 : t.kids[0]? = some x) (h1 : t.kids[1]? = some b) (hN : a5 t < 2^30) : FCallN Tryz.prog G 162 [.pu (tmc 0 t)] (fun m => .pu (tmc m (A1 [x] 0 b))) := by
 have s0 := o7 h0
 have s1 := o7 h1
 obtain ⟨k, n, r, ks, cs⟩ := t
 simp only [Tm.kids] at h0 h1
 have g0 : (l5 0 ks)[0]? = some (tmc 0 x) := by simp [o8, h0]
 have g1 : (l5 0 ks)[1]? = some (tmc 0 b) := by simp [o8, h1]
 refine FCallN.of_tri tbl 13 Tryz.func162 rfl rfl (fun _ => rfl) fun w0 M ρ0 D0 hM => ?_
 refine Y68 ?_;refine Y22 ?_;refine Xq g1 ?_;refine yL ?_;refine Y8 ?_;refine Xq g0 ?_;refine Y66 ?_;refine b5 (F2 (fun m n h => (E6 h _).imp) (fun _ => aN6 [x] (by simp) (fun v hv => by simp at hv; subst hv; omega) b (by omega))) ?_;refine Y29 ?_;refine Rc ?_;exact ToPu.imp (by repeat constructor)
def ae2 : Tm := .mk 1 0 Z32 [] []
def T3 (t0 : Tm) (p : List Nat) (n : Nat) : Tm := .mk 3 0 Z32 [q7 (j4 t0 p) p n p.length ae2] []
theorem do_c (t0 : Tm) (p : List Nat) (hok : okP t0 p) (hN : a5 t0 < 2^28) (n : Nat) (a b : Tm) (hn : r7 (j4 t0 p) (b8 t0 p).ref p.length = (n : Int)) (hnp : n < p.length) (hnum : 0 ≤ (b8 t0 p).num ∧ (b8 t0 p).num < 2^20)
  (ha : (b8 t0 p).kids[0]? = some a) (hb : (b8 t0 (p.take n)).kids[(2 + (b8 t0 p).num).toNat]? = some b) :
  FCall Tryz.prog G 161 [.pu (E3 p (j4 t0 p))] (.pu (tmc 0 (q7 (j4 t0 p) p 0 n (A1 [a, T3 t0 p n] 0 b)))) := by
 have hpl := I6 hok
 have hwl := E5 hok
 have hat := aJ9 (G := G) p (j4 t0 p) (by omega)
 have hwg := y6 hok (Nat.le_refl p.length)
 rw [List.take_length, List.getElem?_eq_getElem (by omega)] at hwg
 simp only [Option.some.injEq] at hwg
 rw [hwg] at hat
 have hwn := y6 hok (Nat.le_of_lt hnp)
 have hsz := t7 (t := t0) (p := p)
 have hszn := t7 (t := t0) (p := p.take n)
 have hfb := ad2 hok n p.length ae2 (Nat.le_refl _)
 have hkw : ∀ t ∈ j4 t0 p, t.kids.length < 2^30 := fun t ht => by have := T7 hok t ht; have := V5 t; omega
 have sa := o7 ha
 have sb := o7 hb
 generalize hw : b8 t0 p = w at hn hnum ha hb hat hsz sa
 obtain ⟨k, num, r, ks, cs⟩ := w
 simp only [Tm.num, Tm.ref, Tm.kids] at hn hnum ha hb
 generalize hv : b8 t0 (p.take n) = v at hb hwn hszn sb
 obtain ⟨k', num', r', ks', cs'⟩ := v
 simp only [Tm.kids] at hb
 have hsv : a5 ae2 = 1 := by simp [ae2, a5, c7, d6]
 have ga : (l5 0 ks)[0]? = some (tmc 0 a) := by simp [o8, ha]
 have gb : (l5 0 ks')[(2 + num).toNat]? = some (tmc 0 b) := by simp [o8, hb]
 have gw : (l5 0 (j4 t0 p))[((n : Int)).toNat]? = some (tmc 0 (.mk k' num' r' ks' cs')) := by simp [o8, hwn]
 have hsb : a5 (T3 t0 p n) < 2^30 := by simp only [T3, a5, c7, d6]; omega
 refine Fq 45 Tryz.func161 ?_;intro w0 M ρ0 D0
 refine Y68 ?_;refine Y5 ?_;refine Dq hat ?_;refine a8 SS 3 ?_;refine yS ?_;refine a6 [3] ?_;refine Y5 ?_;refine Y3 ?_;refine Y3 ?_;refine yP ?_;refine Dq (aD3 p (j4 t0 p) r num (by omega) (by omega)) ?_;refine Y12 ?_;rw [hn];refine Y5 ?_;refine yM ?_;refine Y64 ?_;refine yP ?_;refine Dq (K9 p (j4 t0 p) n ae2 (by omega) (fun i hi => P5 hok i hi) hkw (by omega) (by omega)) ?_;refine Y74 ?_;refine a8 SS 5 ?_;refine yS ?_;refine a6 [5] ?_;refine Y5 ?_;refine yM ?_;refine Y8 ?_;refine yM ?_;refine Xq gw ?_;refine Y8 ?_;refine Y3 ?_;refine yI ?_
 refine b5 (j6 SS (h0 := by rw [b4 (by omega) (by omega)]; omega) (hp := by rw [b4 (by omega) (by omega)]; exact gb)) ?_;refine yL ?_;refine Y8 ?_;refine Xq ga ?_;refine yL ?_;refine yL ?_;refine aN1 SS (ps := [tmc 0 a, tmc 0 (T3 t0 p n)]) ?_;refine Dq ((aN6 [a, T3 t0 p n] (by simp) (fun v hv => by simp at hv; rcases hv with rfl | rfl <;> omega) b (by omega)).at (u := .pu (tmc 0 (A1 [a, T3 t0 p n] 0 b))) (fun m => (E6 (Nat.zero_le m) _).imp)) ?_;refine Dq (aT1 p (j4 t0 p) 0 n (A1 [a, T3 t0 p n] 0 b) (by omega) (by omega) (fun i hi => P5 hok i (by omega)) hkw (by omega) (by omega)) ?_;refine Y29 ?_;refine Rc ?_;exact ToPu.imp (by repeat constructor)
def E4 (t0 : Tm) (p : List Nat) (y : Tm) : Tm := q7 (j4 t0 p) p 0 p.length y
theorem br5 (f : FuncId) (he : j8 Tryz.prog f = true) (t0 : Tm) (p : List Nat) (hok : okP t0 p) (hN : a5 t0 < 2^28) (y : Tm) (h : FCall Tryz.prog G f [.pu (tmc 0 (b8 t0 p))] (.pu (tmc 0 y))) :
  HCall Tryz.prog G 152 [.pu (E3 p (j4 t0 p)), .ptr 831 [] 36] [(831, .var 36 (fV f))] [] (.pu (tmc 0 (E4 t0 p y))) [] [] := by
 have hpl := I6 hok
 have hwl := E5 hok
 have hat := aJ9 (G := G) p (j4 t0 p) (by omega)
 have hwg := y6 hok (Nat.le_refl p.length)
 rw [List.take_length, List.getElem?_eq_getElem (by omega)] at hwg
 simp only [Option.some.injEq] at hwg
 rw [hwg] at hat
 have hkw : ∀ t ∈ j4 t0 p, t.kids.length < 2^30 := fun t ht => by have := T7 hok t ht; have := V5 t; omega
 refine HCall.of_triD tbl 13 [] Tryz.func152 rfl rfl rfl fun w0 M ρ0 D0 => ?_
 refine Y39 ?_;refine a8 SS 3 ?_;refine a6 [2, 3] ?_;refine Y5 ?_;refine Y64 ?_;refine yL ?_;refine yL ?_;refine Dq hat ?_;refine b5 (p6 (fun _ => h) (he := he)) ?_;refine Dq (K9 p (j4 t0 p) 0 y (by omega) (fun i hi => P5 hok i hi) hkw (by omega) (by omega)) ?_;refine Y29 ?_;refine Rcz ?_;exact VImp.refl _
theorem br4 (f : FuncId) (he : j8 Tryz.prog f = true) (t0 : Tm) (p : List Nat) (hok : okP t0 p) (hN : a5 t0 < 2^28) (y : Tm) (h : FCall Tryz.prog G f [.pu (tmc 0 (b8 t0 p))] (.pu (tmc 0 y))) :
  HCall Tryz.prog G 152 [.pu (E3 p (j4 t0 p)), .ptr 832 [] 36] [(832, .var 36 (fV f))] [] (.pu (tmc 0 (E4 t0 p y))) [] [] := by
 have hpl := I6 hok
 have hwl := E5 hok
 have hat := aJ9 (G := G) p (j4 t0 p) (by omega)
 have hwg := y6 hok (Nat.le_refl p.length)
 rw [List.take_length, List.getElem?_eq_getElem (by omega)] at hwg
 simp only [Option.some.injEq] at hwg
 rw [hwg] at hat
 have hkw : ∀ t ∈ j4 t0 p, t.kids.length < 2^30 := fun t ht => by have := T7 hok t ht; have := V5 t; omega
 refine HCall.of_triD tbl 13 [] Tryz.func152 rfl rfl rfl fun w0 M ρ0 D0 => ?_
 refine Y39 ?_;refine a8 SS 3 ?_;refine a6 [2, 3] ?_;refine Y5 ?_;refine Y64 ?_;refine yL ?_;refine yL ?_;refine Dq hat ?_;refine b5 (p6 (fun _ => h) (he := he)) ?_;refine Dq (K9 p (j4 t0 p) 0 y (by omega) (fun i hi => P5 hok i hi) hkw (by omega) (by omega)) ?_;refine Y29 ?_;refine Rcz ?_;exact VImp.refl _
theorem br2 (f : FuncId) (he : j8 Tryz.prog f = true) (t0 : Tm) (p : List Nat) (hok : okP t0 p) (hN : a5 t0 < 2^28) (y : Tm) (h : FCall Tryz.prog G f [.pu (tmc 0 (b8 t0 p))] (.pu (tmc 0 y))) :
  HCall Tryz.prog G 152 [.pu (E3 p (j4 t0 p)), .ptr 834 [] 36] [(834, .var 36 (fV f))] [] (.pu (tmc 0 (E4 t0 p y))) [] [] := by
 have hpl := I6 hok
 have hwl := E5 hok
 have hat := aJ9 (G := G) p (j4 t0 p) (by omega)
 have hwg := y6 hok (Nat.le_refl p.length)
 rw [List.take_length, List.getElem?_eq_getElem (by omega)] at hwg
 simp only [Option.some.injEq] at hwg
 rw [hwg] at hat
 have hkw : ∀ t ∈ j4 t0 p, t.kids.length < 2^30 := fun t ht => by have := T7 hok t ht; have := V5 t; omega
 refine HCall.of_triD tbl 13 [] Tryz.func152 rfl rfl rfl fun w0 M ρ0 D0 => ?_
 refine Y39 ?_;refine a8 SS 3 ?_;refine a6 [2, 3] ?_;refine Y5 ?_;refine Y64 ?_;refine yL ?_;refine yL ?_;refine Dq hat ?_;refine b5 (p6 (fun _ => h) (he := he)) ?_;refine Dq (K9 p (j4 t0 p) 0 y (by omega) (fun i hi => P5 hok i hi) hkw (by omega) (by omega)) ?_;refine Y29 ?_;refine Rcz ?_;exact VImp.refl _
theorem br1 (f : FuncId) (he : j8 Tryz.prog f = true) (t0 : Tm) (p : List Nat) (hok : okP t0 p) (hN : a5 t0 < 2^28) (y : Tm) (h : FCall Tryz.prog G f [.pu (tmc 0 (b8 t0 p))] (.pu (tmc 0 y))) :
  HCall Tryz.prog G 152 [.pu (E3 p (j4 t0 p)), .ptr 835 [] 36] [(835, .var 36 (fV f))] [] (.pu (tmc 0 (E4 t0 p y))) [] [] := by
 have hpl := I6 hok
 have hwl := E5 hok
 have hat := aJ9 (G := G) p (j4 t0 p) (by omega)
 have hwg := y6 hok (Nat.le_refl p.length)
 rw [List.take_length, List.getElem?_eq_getElem (by omega)] at hwg
 simp only [Option.some.injEq] at hwg
 rw [hwg] at hat
 have hkw : ∀ t ∈ j4 t0 p, t.kids.length < 2^30 := fun t ht => by have := T7 hok t ht; have := V5 t; omega
 refine HCall.of_triD tbl 13 [] Tryz.func152 rfl rfl rfl fun w0 M ρ0 D0 => ?_
 refine Y39 ?_;refine a8 SS 3 ?_;refine a6 [2, 3] ?_;refine Y5 ?_;refine Y64 ?_;refine yL ?_;refine yL ?_;refine Dq hat ?_;refine b5 (p6 (fun _ => h) (he := he)) ?_;refine Dq (K9 p (j4 t0 p) 0 y (by omega) (fun i hi => P5 hok i hi) hkw (by omega) (by omega)) ?_;refine Y29 ?_;refine Rcz ?_;exact VImp.refl _
theorem br0 (f : FuncId) (he : j8 Tryz.prog f = true) (t0 : Tm) (p : List Nat) (hok : okP t0 p) (hN : a5 t0 < 2^28) (y : Tm) (h : FCall Tryz.prog G f [.pu (tmc 0 (b8 t0 p))] (.pu (tmc 0 y))) :
  HCall Tryz.prog G 152 [.pu (E3 p (j4 t0 p)), .ptr 836 [] 36] [(836, .var 36 (fV f))] [] (.pu (tmc 0 (E4 t0 p y))) [] [] := by
 have hpl := I6 hok
 have hwl := E5 hok
 have hat := aJ9 (G := G) p (j4 t0 p) (by omega)
 have hwg := y6 hok (Nat.le_refl p.length)
 rw [List.take_length, List.getElem?_eq_getElem (by omega)] at hwg
 simp only [Option.some.injEq] at hwg
 rw [hwg] at hat
 have hkw : ∀ t ∈ j4 t0 p, t.kids.length < 2^30 := fun t ht => by have := T7 hok t ht; have := V5 t; omega
 refine HCall.of_triD tbl 13 [] Tryz.func152 rfl rfl rfl fun w0 M ρ0 D0 => ?_
 refine Y39 ?_;refine a8 SS 3 ?_;refine a6 [2, 3] ?_;refine Y5 ?_;refine Y64 ?_;refine yL ?_;refine yL ?_;refine Dq hat ?_;refine b5 (p6 (fun _ => h) (he := he)) ?_;refine Dq (K9 p (j4 t0 p) 0 y (by omega) (fun i hi => P5 hok i hi) hkw (by omega) (by omega)) ?_;refine Y29 ?_;refine Rcz ?_;exact VImp.refl _
end
section
variable {G : List (Nat × TypeId × Pu)}
abbrev X0 (l : Nat) : PV := .fn (.func 152) [] [.ptr l [] 36]
abbrev ca9 : PV := .fn (.func 158) [] [.ptr 823 [] 149]
def az4 (ts : List KT) : List (List Int × PV) := ts.map fun x => (x.1, .pu (tmc 0 x.2))
instance {V : TypeId} {ts : List KT} : NoLab (.map 28 V (R3 (az4 ts))) := inferInstanceAs (NoLab (.map 28 V (R3 (ts.map fun x => (x.1, .pu (tmc 0 x.2))))))
theorem aE5 {ts : List KT} {i : Nat} (h : i < ts.length) : az4 (ts.take (i + 1)) = az4 (ts.take i) ++ [(ts[i].1, .pu (tmc 0 ts[i].2))] := by
 unfold az4
 rw [List.take_succ_eq_append_getElem h, List.map_append]; rfl
theorem ar1 {ts : List KT} (h : ∀ x ∈ ts, x.1.length = 32) : ∀ x ∈ az4 ts, x.1.length = 32 := by
 intro x hx
 obtain ⟨y, hy, rfl⟩ := List.mem_map.1 hx
 exact h y hy
def B2 (s : List Int) : List KT → Option Tm
 | [] => none
 | x :: l => if s = x.1 then some x.2 else B2 s l
theorem aa3 {s : List Int} : ∀ {ts : List KT}, Q4 s (az4 ts) = (B2 s ts).map fun t => .pu (tmc 0 t)
 | [] => rfl
 | x :: ts => by
  have ih := aa3 (s := s) (ts := ts)
  unfold az4 at ih ⊢
  simp only [List.map_cons, Q4, B2, ih]
  split <;> rfl
theorem aV0 {s : List Int} : ∀ {ts : List KT}, s ∉ ts.map (·.1) → B2 s ts = none
 | [], _ => rfl
 | x :: ts, h => by
  simp only [List.map_cons, List.mem_cons, not_or] at h
  simp only [B2, if_neg h.1]
  exact aV0 h.2
abbrev nilF : PV := .pu (.leaf .nilFunc)
abbrev runO (a b : Pu) (ts : List KT) (fs : List PV) : Ob := .var 181 (.agg 181 [.pu (wdP a b ts), .mp 822 28 32, .agg 179 fs])
abbrev ruO (a b : Pu) (ts : List KT) : List (Nat × Ob) := [(820, runO a b ts [nilF, X0 831, X0 832, X0 833, X0 834, X0 835, fV 161, X0 836]), (822, .map 28 32 (R3 (az4 ts))), (823, .var 149 (.ptr 820 [] 181)),
 (831, .var 36 (fV 155)), (832, .var 36 (fV 157)), (833, .var 36 ca9), (834, .var 36 (fV 159)), (835, .var 36 (fV 160)), (836, .var 36 (fV 162))]
theorem bp9 : HCall Tryz.prog G 151 [fV 155] [] [] (X0 831) [(831, .var 36 (fV 155))] [831] := by
 refine HCall.of_triD tbl 4 [] Tryz.func151 rfl rfl rfl fun w0 M ρ0 D0 => ?_
 refine yR ?_;refine o9 SS 831 ?_;refine yB ?_;refine a6 [831] ?_;refine Y35 ?_;refine Rqz ?_;exact VImp.refl _
theorem bp8 : HCall Tryz.prog G 151 [fV 157] [] [] (X0 832) [(832, .var 36 (fV 157))] [832] := by
 refine HCall.of_triD tbl 4 [] Tryz.func151 rfl rfl rfl fun w0 M ρ0 D0 => ?_
 refine yR ?_;refine o9 SS 832 ?_;refine yB ?_;refine a6 [832] ?_;refine Y35 ?_;refine Rqz ?_;exact VImp.refl _
theorem bp6 : HCall Tryz.prog G 151 [fV 159] [] [] (X0 834) [(834, .var 36 (fV 159))] [834] := by
 refine HCall.of_triD tbl 4 [] Tryz.func151 rfl rfl rfl fun w0 M ρ0 D0 => ?_
 refine yR ?_;refine o9 SS 834 ?_;refine yB ?_;refine a6 [834] ?_;refine Y35 ?_;refine Rqz ?_;exact VImp.refl _
theorem bp5 : HCall Tryz.prog G 151 [fV 160] [] [] (X0 835) [(835, .var 36 (fV 160))] [835] := by
 refine HCall.of_triD tbl 4 [] Tryz.func151 rfl rfl rfl fun w0 M ρ0 D0 => ?_
 refine yR ?_;refine o9 SS 835 ?_;refine yB ?_;refine a6 [835] ?_;refine Y35 ?_;refine Rqz ?_;exact VImp.refl _
theorem bp4 : HCall Tryz.prog G 151 [fV 162] [] [] (X0 836) [(836, .var 36 (fV 162))] [836] := by
 refine HCall.of_triD tbl 4 [] Tryz.func151 rfl rfl rfl fun w0 M ρ0 D0 => ?_
 refine yR ?_;refine o9 SS 836 ?_;refine yB ?_;refine a6 [836] ?_;refine Y35 ?_;refine Rqz ?_;exact VImp.refl _
theorem bp7 : HCall Tryz.prog G 151 [ca9] [] [] (X0 833) [(833, .var 36 ca9)] [833] := by
 refine HCall.of_triD tbl 4 [823] Tryz.func151 rfl rfl rfl fun w0 M ρ0 D0 => ?_
 refine yR ?_;refine o9 SS 833 ?_;refine yB ?_;refine a6 [833] ?_;refine Y35 ?_;refine Rqz ?_;exact VImp.refl _
set_option maxHeartbeats 1000000 in
theorem aP1 (a b : Pu) (ts : List KT) (hnd : (ts.map (·.1)).Nodup) (hl : ts.length < 2^40) : HCall Tryz.prog G 94 [.pu (wdP a b ts)] [] [] (.ptr 820 [] 181) (ruO a b ts) [822, 820, 823, 831, 832, 833, 834, 835, 836] := by
 refine HCall.of_triE tbl 48 [] Tryz.func94 rfl rfl rfl rfl rfl (by repeat (first | exact .nil | refine .cons rfl rfl ?_ | refine .cons rfl bY4 ?_)) rfl fun w0 M ρ0 D0 => ?_
 refine Tri.fact (i := 0) rfl (fun D w x h => bd9 h) (fun hr => ?_);refine Y44 ?_;refine yB ?_;refine a6 [1] ?_;refine Y5 ?_;refine aB6 822 ?_;refine yP ?_;refine o9 SS 820 ?_;refine a8 SS 823 ?_;refine yS ?_;refine a6 [822, 820, 823] ?_;refine Y5 ?_;refine Y60 ?_;refine Y8 ?_;refine Y38 ?_;refine Tri.block (Tri.loopW (σ := Nat) (fun i => ⟨[(3, .ptr 823 [] 149), (15, .pu (.sl 0 116 (ts.map ktP))), (16, iv .i64 (ts.map ktP).length), (17, iv .i64 i)], [(820, .var 181 (.agg 181 [.pu (wdP a b ts), .mp 822 28 32, .pu (.agg 179 (List.replicate 8 (.leaf .nilFunc)))])), (822, .map 28 32 (R3 (az4 (ts.take i)))), (823, .var 149 (.ptr 820 [] 181))]⟩) (fun i => ts.length - i) 0 ?_ ?_ (fun i => ?_))
 ·exact zW
 ·exact zW
 refine Y30 ?_;refine Cq ?_ ?_
 ·intro h0
  have hi : i < ts.length := by simpa using h0
  have hr1 := hr _ (List.getElem_mem hi)
  have hr2 := ar1 (fun x hx => hr x (List.mem_of_mem_take hx)) (ts := ts.take i)
  have hdup := av4 (l := ts.map (·.1)) (i := i) (by simpa using hi)
  rw [List.map_take.symm, List.map_take.symm, List.getElem_map] at hdup
  have hnew : ts[i].1 ∉ (ts.take i).map (·.1) := (hdup.1 (by rw [List.map_take]; exact hnd.sublist (List.take_sublist _ _))).2
  have hnone : Q4 ts[i].1 (az4 (ts.take i)) = none := by rw [aa3, aV0 hnew]; rfl
  refine Y76 ?_;refine b5 (j6 SS (h0 := by omega) (hp := bb0 hi)) ?_;refine yL ?_;refine a8 SS 5 ?_;refine yS ?_;refine a6 [5] ?_;refine Y33 ?_;refine Y3 ?_;refine Y3 ?_;refine an4 SS (u := .pu (tmc 0 ts[i].2)) rfl rfl rfl rfl (VImp.refl _) rfl (VImp.refl _) rfl (ac8 _) (J2 _ [] ).2.2.1 (V9 hr1 hr2 hnone) (labs := []) (fun l' h => by rw [NoLab.ok] at h; exact h) ?_;refine x8 ?_;refine Y25 ?_
  refine ⟨i + 1, by omega, k7 ?_ ?_⟩
  ·repeat (first | exact SubE.nil | refine SubE.cons rfl (by first | rfl | (rw [b4 (by omega) (by omega)]; rfl) | (simp only [aE5 hi, Q3])) ?_)
  ·repeat (first | exact SubH.nil | refine SubH.cons rfl (by first | rfl | (rw [b4 (by omega) (by omega)]; rfl) | (simp only [aE5 hi, Q3])) ?_)
 ·intro h0
  have hi : ts.length ≤ i := by simpa using h0
  rw [List.take_of_length_le hi];refine Tri.exit ?_;refine Y20 ?_;refine Y5 ?_;refine yM ?_;refine a9 (bp9) ?_;refine yM ?_;refine a9 (bp8) ?_;refine yM ?_;refine b5 (H8 SS) ?_;refine a9 (bp7) ?_;refine yM ?_;refine a9 (bp6) ?_;refine yM ?_;refine a9 (bp5) ?_;refine yM ?_;refine a9 (bp4) ?_;refine yP ?_;refine Y60 ?_;refine yS ?_;refine G6 [831, 832, 833, 834, 835, 836] ?_;refine Y5 ?_;refine Y2 ?_;refine Rqz ?_;exact VImp.refl _
end
section
variable {G : List (Nat × TypeId × Pu)}
theorem bR4 (a b : Pu) (ts : List KT) (hts : ∀ x ∈ ts, x.1.length = 32) (t y : Tm) (hy : B2 t.ref ts = some y) : HCall Tryz.prog G 158 [.pu (tmc 0 t), .ptr 823 [] 149] (ruO a b ts) [] (.pu (tmc 0 y)) [] [] := by
 obtain ⟨k, n, r, ks, cs⟩ := t
 simp only [Tm.ref] at hy
 refine HCall.of_triD tbl 11 [] Tryz.func158 rfl rfl rfl fun w0 M ρ0 D0 => ?_
 refine Tri.fact (i := 0) rfl (fun D w x h => an3 h) (fun hr => ?_)
 have hget : V1 Tryz.prog SS 28 32 (f5 r) (R3 (az4 ts)) = some (.pu (tmc 0 y), true) := aa2 hr.1 (ar1 hts) (by rw [aa3, hy]; rfl)
 refine Y39 ?_;refine a8 SS 3 ?_;refine a6 [2, 3] ?_;refine Y33 ?_;refine Y3 ?_;refine b5 (ag7 SS rfl rfl rfl (VImp.refl _) (ac8 _) (J2 _ []).2.2.1 hget) ?_;refine Y29 ?_;refine Rcz ?_;exact VImp.refl _
theorem br3 (a b : Pu) (ts : List KT) (hts : ∀ x ∈ ts, x.1.length = 32) (t0 : Tm) (p : List Nat) (hok : okP t0 p) (hN : a5 t0 < 2^28) (y : Tm) (hy : B2 (b8 t0 p).ref ts = some y) :
  HCall Tryz.prog G 152 [.pu (E3 p (j4 t0 p)), .ptr 833 [] 36] (ruO a b ts) [] (.pu (tmc 0 (E4 t0 p y))) [] [] := by
 have hpl := I6 hok
 have hwl := E5 hok
 have hat := aJ9 (G := G) p (j4 t0 p) (by omega)
 have hwg := y6 hok (Nat.le_refl p.length)
 rw [List.take_length, List.getElem?_eq_getElem (by omega)] at hwg
 simp only [Option.some.injEq] at hwg
 rw [hwg] at hat
 have hkw : ∀ t ∈ j4 t0 p, t.kids.length < 2^30 := fun t ht => by have := T7 hok t ht; have := V5 t; omega
 refine HCall.of_triD tbl 13 [] Tryz.func152 rfl rfl rfl fun w0 M ρ0 D0 => ?_
 refine Y39 ?_;refine a8 SS 3 ?_;refine a6 [2, 3] ?_;refine Y5 ?_;refine Y64 ?_;refine yL ?_;refine yL ?_;refine Dq hat ?_;refine b5 (p6 (fun _ => bR4 a b ts hts (b8 t0 p) y hy)) ?_;refine Dq (K9 p (j4 t0 p) 0 y (by omega) (fun i hi => P5 hok i hi) hkw (by omega) (by omega)) ?_;refine Y29 ?_;refine Rcz ?_;exact VImp.refl _
def F0 (ts : List KT) (way : List Tm) (len : Nat) : Tm → Int
 | .mk k n r ks cs =>
  if k = 4 then (match ks[0]? with | some f => cond (f.kind == 3) 1 8 | none => 8)
  else if k = 5 then 2
  else if k = 6 then cond (B2 r ts).isSome 3 8
  else if k = 10 then cond (ks.all (fun x => x.kind == 2)) 4 8
  else if k = 9 then (match ks[0]? with | some v => cond ((q9 cs v).kind != 0) 5 8 | none => 8)
  else if k = 11 then (if r7 way r len < 0 then 9 else match way[(r7 way r len).toNat]? with
   | some h => cond (decide ((h.kids.length : Int) > 2 + n)) 6 8
   | none => 8)
  else if k = 12 then 7 else 8
def D6 (ts : List KT) (t0 : Tm) (p : List Nat) : Int := F0 ts (j4 t0 p) p.length (b8 t0 p)
theorem V6 (way : List Tm) (r : List Int) : ∀ n, r7 way r n < n ∧ -1 ≤ r7 way r n
 | 0 => by simp [r7]
 | n + 1 => by
  have := V6 way r n
  simp only [r7]
  split
  ·split
   ·constructor <;> omega
   ·omega
  ·omega
theorem bN4 (t : Tm) : FCall Tryz.prog G 163 [.pu (tmc 0 t)] (bv (t.kind == 2)) := by
 obtain ⟨k, n, r, ks, cs⟩ := t
 refine Fq 6 Tryz.func163 ?_;intro w0 M ρ0 D0
 refine Y44 ?_;refine yB ?_;refine a6 [1] ?_;refine Y37 ?_;refine Y2 ?_;refine Rq ?_;exact ToPu.imp (by repeat constructor)
set_option maxHeartbeats 2000000 in
theorem bC7 (a b : Pu) (ts : List KT) (hts : ∀ x ∈ ts, x.1.length = 32) (t0 : Tm) (p : List Nat) (hok : okP t0 p) (hN : a5 t0 < 2^28) (hsh : s8 (b8 t0 p).kind (b8 t0 p).kids.length = true) (hnum : (b8 t0 p).kind = 11 → 0 ≤ (b8 t0 p).num ∧ (b8 t0 p).num ≤ 7) :
  HCall Tryz.prog G 95 [.ptr 820 [] 181, .pu (E3 p (j4 t0 p))] (ruO a b ts) [] (iv .i64 (D6 ts t0 p)) [] [] := by
 have hpl := I6 hok
 have hwl := E5 hok
 have hat := aJ9 (G := G) p (j4 t0 p) (by omega)
 have hwg := y6 hok (Nat.le_refl p.length)
 rw [List.take_length, List.getElem?_eq_getElem (by omega)] at hwg
 simp only [Option.some.injEq] at hwg
 rw [hwg] at hat
 have hsz := t7 (t := t0) (p := p)
 have hmem : b8 t0 p ∈ j4 t0 p := hwg ▸ List.getElem_mem _
 unfold D6
 generalize hw : b8 t0 p = w at hat hsh hnum hsz hmem ⊢
 obtain ⟨k, n, r, ks, cs⟩ := w
 simp only [Tm.kind, Tm.kids, Tm.num] at hsh hnum
 have hszk : 1 + c7 ks + d6 cs ≤ a5 t0 := by simpa only [a5] using hsz
 have hlen := l8 ks
 have hhl := V6 (j4 t0 p) r p.length
 refine HCall.of_triD tbl 76 [] Tryz.func95 rfl rfl rfl fun w0 M ρ0 D0 => ?_
 refine Tri.fact (i := 1) rfl (fun D w x h => be9 h) (fun hr0 => ?_)
 have hrl : r.length = 32 := (ar9 hr0 _ hmem).1
 refine Y45 ?_;refine yB ?_;refine a6 [3] ?_;refine Y5 ?_;refine Dq hat ?_;refine a8 SS 5 ?_;refine yS ?_;refine a6 [5] ?_;refine Y14 ?_;refine Y0 ?_;refine Tri.block ?_;refine Y16 ?_;refine Cq ?_ ?_
 ·intro h0
  have hk : k = 4 := by simpa using h0
  have h2 : 0 < ks.length := by rw [hk] at hsh; simp [s8] at hsh; omega
  have g0 := B6 (lo := 0) h2
  have hsp : F0 ts (j4 t0 p) p.length (.mk k n r ks cs) = cond ((ks[0]).kind == 3) 1 8 := by simp only [F0, hk, List.getElem?_eq_getElem h2] <;> rfl
  generalize ks[0] = f at g0 hsp
  obtain ⟨fk, fn, fr, fks, fcs⟩ := f
  simp only [Tm.kind] at hsp
  refine Y22 ?_;refine Xq g0 ?_;refine Y3 ?_;refine Y53 ?_;refine Cq ?_ ?_
  ·intro h1
   rw [h1] at hsp
   refine Y9 ?_;refine Rqz ?_;exact d4 (by first | exact hsp.symm | cases h4)
  ·intro h1
   rw [h1] at hsp
   refine Y50 ?_;refine Rqz ?_;exact d4 (by first | exact hsp.symm | cases h4)
 ·intro h0
  refine Y16 ?_;refine Cq ?_ ?_
  ·intro h2
   have hk : k = 5 := by simpa using h2
   have hsp : F0 ts (j4 t0 p) p.length (.mk k n r ks cs) = 2 := by simp only [F0, hk] <;> rfl
   refine Y9 ?_;refine Rqz ?_;exact d4 (by first | exact hsp.symm | cases h4)
  ·intro h2
   refine Y16 ?_;refine Cq ?_ ?_
   ·intro h3
    have hk : k = 6 := by simpa using h3
    have hsp : F0 ts (j4 t0 p) p.length (.mk k n r ks cs) = cond (B2 r ts).isSome 3 8 := by simp only [F0, hk] <;> rfl
    rcases hb : B2 r ts with _ | y
    all_goals
     rw [hb] at hsp
     refine Y55 ?_;refine Y3 ?_
     first | refine b5 (ag7 SS rfl rfl rfl (VImp.refl _) (ac8 _) (J2 _ []).2.2.1 (aa2 hrl (ar1 hts) (by rw [aa3, hb]; rfl))) ?_ | refine b5 (ag7 SS rfl rfl rfl (VImp.refl _) (ac8 _) (J2 _ []).2.2.1 (ao2 (z := .agg 32 [iv .i64 0, iv .i64 0, .pu (f5 Z32), .nilc, .nilc]) (by kernel_rfl) hrl (ar1 hts) (by rw [aa3, hb]; rfl))) ?_
     refine Y58 ?_;refine a8 SS 6 ?_;refine Y73 ?_;refine G6 [6] ?_;refine Y1 ?_;refine Y0 ?_;refine Cq ?_ ?_
     ·intro h4
      refine Y9 ?_;refine Rqz ?_;exact d4 (by first | exact hsp.symm | cases h4)
     ·intro h4
      refine Y50 ?_;refine Rqz ?_;exact d4 (by first | exact hsp.symm | cases h4)
   ·intro h3
    refine Y16 ?_;refine Cq ?_ ?_
    ·intro h5
     have hk : k = 10 := by simpa using h5
     have hsp : F0 ts (j4 t0 p) p.length (.mk k n r ks cs) = cond (ks.all (fun x => x.kind == 2)) 4 8 := by simp only [F0, hk] <;> rfl
     refine Y22 ?_;refine Dq (bj6 163 (by kernel_rfl) (fun x => x.kind == 2) ks (by omega) (fun x _ => bN4 x)) ?_;refine Y0 ?_;refine Cq ?_ ?_
     ·intro h6
      rw [h6] at hsp
      refine Y9 ?_;refine Rqz ?_;exact d4 (by first | exact hsp.symm | cases h4)
     ·intro h6
      rw [h6] at hsp
      refine Y50 ?_;refine Rqz ?_;exact d4 (by first | exact hsp.symm | cases h4)
    ·intro h5
     refine Y16 ?_;refine Cq ?_ ?_
     ·intro h7
      have hk : k = 9 := by simpa using h7
      have h2 : 0 < ks.length := by rw [hk] at hsh; simp [s8] at hsh; omega
      have hmc := aC8 (G := G) k n r ks cs h2 (by simp only [a5]; omega)
      have hsp : F0 ts (j4 t0 p) p.length (.mk k n r ks cs) = cond ((q9 cs ks[0]).kind != 0) 5 8 := by simp only [F0, hk, List.getElem?_eq_getElem h2] <;> rfl
      generalize q9 cs ks[0] = y at hmc hsp
      obtain ⟨yk, yn, yr, yks, ycs⟩ := y
      simp only [Tm.kind] at hsp
      refine Y5 ?_;refine Dq (hmc.at (u := .pu (tmc 0 (.mk yk yn yr yks ycs))) (fun m => (E6 (Nat.zero_le m) _).imp)) ?_;refine b5 (aX2 SS (ht := TyV.ok)) ?_;refine Y53 ?_;refine Cq ?_ ?_
      ·intro h8
       rw [h8] at hsp
       refine Y9 ?_;refine Rqz ?_;exact d4 (by first | exact hsp.symm | cases h4)
      ·intro h8
       rw [h8] at hsp
       refine Y50 ?_;refine Rqz ?_;exact d4 (by first | exact hsp.symm | cases h4)
     ·intro h7
      refine Y16 ?_;refine Cq ?_ ?_
      ·intro h9
       have hk : k = 11 := by simpa using h9
       have hnum := hnum hk
       have hsp : F0 ts (j4 t0 p) p.length (.mk k n r ks cs) = (if r7 (j4 t0 p) r p.length < 0 then 9 else match (j4 t0 p)[(r7 (j4 t0 p) r p.length).toNat]? with | some h => cond (decide ((h.kids.length : Int) > 2 + n)) 6 8 | none => 8) := by simp only [F0, hk] <;> rfl
       refine Y5 ?_;refine b5 (H8 SS) ?_;refine Y12 ?_;refine Y1 ?_;refine Y3 ?_;refine Y3 ?_;refine yP ?_;refine b5 (p6 (fun _ => aD3 p (j4 t0 p) r n (by omega) (by omega))) ?_;refine Y2 ?_;refine Tri.block ?_;refine Y46 ?_;refine Cq ?_ ?_
       ·intro h10
        rw [if_pos (by simpa using h10)] at hsp
        refine Y9 ?_;refine Rqz ?_;exact d4 (by first | exact hsp.symm | cases h4)
       ·intro h10
        have hnn : 0 ≤ r7 (j4 t0 p) r p.length := by simpa using h10
        rw [if_neg (by omega)] at hsp
        have hlt : (r7 (j4 t0 p) r p.length).toNat < (j4 t0 p).length := by omega
        have gw := B6 (lo := 0) hlt
        rw [List.getElem?_eq_getElem hlt] at hsp
        simp only at hsp
        generalize (j4 t0 p)[(r7 (j4 t0 p) r p.length).toNat] = x at gw hsp
        obtain ⟨xk, xn, xr, xks, xcs⟩ := x
        simp only [Tm.kids] at hsp
        refine Y22 ?_;refine yM ?_;refine b5 (j6 SS (h0 := hnn) (hp := gw)) ?_;refine Y64 ?_;refine Y3 ?_;refine yI ?_;refine yI ?_;refine yA ?_;refine Y23 ?_;refine Cq ?_ ?_
        ·intro h11
         rw [a7, b4 (by omega) (by omega)] at h11
         replace hsp := hsp.trans (show _ = (6 : Int) from by have h := of_decide_eq_true h11; simp [h])
         refine Y9 ?_;refine Rqz ?_;exact d4 (by first | exact hsp.symm | cases h4)
        ·intro h11
         rw [a7, b4 (by omega) (by omega)] at h11
         replace hsp := hsp.trans (show _ = (8 : Int) from by have h := of_decide_eq_false h11; simp only [gt_iff_lt] at h; simp [h])
         refine Y50 ?_;refine Rqz ?_;exact d4 (by first | exact hsp.symm | cases h4)
      ·intro h9
       refine Y16 ?_;refine Cq ?_ ?_
       ·intro h12
        have hk : k = 12 := by simpa using h12
        have hsp : F0 ts (j4 t0 p) p.length (.mk k n r ks cs) = 7 := by simp only [F0, hk] <;> rfl
        refine Y9 ?_;refine Rqz ?_;exact d4 (by first | exact hsp.symm | cases h4)
       ·intro h12
        have hsp : F0 ts (j4 t0 p) p.length (.mk k n r ks cs) = 8 := by
         simp only [beq_eq_false_iff_ne, ne_eq] at h0 h2 h3 h5 h7 h9 h12
         simp only [F0, if_neg h0, if_neg h2, if_neg h3, if_neg h5, if_neg h7, if_neg h9, if_neg h12]
        refine Y50 ?_;refine Rqz ?_;exact d4 (by first | exact hsp.symm | cases h4)
end
section
variable {mn md : Int}
mutual
theorem bh4 : ∀ (p : Pat) (d c : Int), (l4 mn md d c p).1 = false → (l4 mn md d c p).2 = c + k9 p
 | .mk _ _ _ ks, d, c, h => by
  simp only [l4, k9] at h ⊢
  split at h
  ·cases h
  ·rename_i hn
   rw [if_neg hn]
   have := aQ0 ks (d + 1) (c + 1) h
   rw [this]; omega
theorem aQ0 : ∀ (ks : List Pat) (d c : Int), (x7 mn md d c ks).1 = false → (x7 mn md d c ks).2 = c + n7 ks
 | [], d, c, h => by simp [x7, n7]
 | p :: ps, d, c, h => by
  have h1 := bh4 p d c
  simp only [x7, n7] at h ⊢
  rcases hs : l4 mn md d c p with ⟨b, c'⟩
  rw [hs] at h1 h
  cases b
  ·have h1 := h1 rfl
   have h2 := aQ0 ps d c' h
   simp only at h1 h2 ⊢
   rw [h2, h1]; omega
  ·cases h
end
mutual
theorem aH4 : ∀ (t : Tm) (d c : Int), (n3 mn md d c t).1 = false → (n3 mn md d c t).2 = c + a5 t
 | .mk _ _ _ ks cs, d, c, h => by
  simp only [n3, a5] at h ⊢
  split at h
  ·cases h
  ·rename_i hn
   rw [if_neg hn]
   have h1 := aP9 ks (d + 1) (c + 1)
   rcases hs : n8 mn md (d + 1) (c + 1) ks with ⟨b, c'⟩
   rw [hs] at h1 h
   cases b
   ·have h1 := h1 rfl
    have h2 := aQ3 cs (d + 1) c' h
    simp only at h1 h2 ⊢
    rw [h2, h1]; omega
   ·cases h
theorem aP9 : ∀ (ks : List Tm) (d c : Int), (n8 mn md d c ks).1 = false → (n8 mn md d c ks).2 = c + c7 ks
 | [], d, c, h => by simp [n8, c7]
 | p :: ps, d, c, h => by
  have h1 := aH4 p d c
  simp only [n8, c7] at h ⊢
  rcases hs : n3 mn md d c p with ⟨b, c'⟩
  rw [hs] at h1 h
  cases b
  ·have h1 := h1 rfl
   have h2 := aP9 ps d c' h
   simp only at h1 h2 ⊢
   rw [h2, h1]; omega
  ·cases h
theorem bM8 : ∀ (x : Cs) (d c : Int), (G1 mn md d c x).1 = false → (G1 mn md d c x).2 = c + u7 x
 | .mk p t, d, c, h => by
  have h1 := bh4 (mn := mn) (md := md) p d c
  simp only [G1, u7] at h ⊢
  rcases hs : l4 mn md d c p with ⟨b, c'⟩
  rw [hs] at h1 h
  cases b
  ·have h1 := h1 rfl
   have h2 := aH4 t d c' h
   simp only at h1 h2 ⊢
   rw [h2, h1]; omega
  ·cases h
theorem aQ3 : ∀ (ks : List Cs) (d c : Int), (r8 mn md d c ks).1 = false → (r8 mn md d c ks).2 = c + d6 ks
 | [], d, c, h => by simp [r8, d6]
 | p :: ps, d, c, h => by
  have h1 := bM8 p d c
  simp only [r8, d6] at h ⊢
  rcases hs : G1 mn md d c p with ⟨b, c'⟩
  rw [hs] at h1 h
  cases b
  ·have h1 := h1 rfl
   have h2 := aQ3 ps d c' h
   simp only at h1 h2 ⊢
   rw [h2, h1]; omega
  ·cases h
end
theorem ac9 {t : Tm} {d c : Int} (hc : c ≤ mn) (h : (n3 mn md d c t).1 = false) : c + a5 t ≤ mn := by
 have h1 := aH4 t d c h
 have h2 := (ai5 (mn := mn) (md := md) t d c hc).2.2 h
 omega
theorem H9 : shT p7 := by simp [p7, shT, shL, shC, s8]
theorem bW6 (n : Int) : shT (aP5 n) := by simp [aP5, shT, shL, shC, s8]
theorem bW4 : shT ae2 := by simp [ae2, shT, shL, shC, s8]
mutual
theorem as6 (vs : List Tm) (hv : ∀ v ∈ vs, shT v) : ∀ (t : Tm) (d : Int), shT t → shT (A1 vs d t)
 | .mk k n r ks cs, d, h => by
  simp only [shT] at h
  obtain ⟨h1, h2, h3, h4⟩ := h
  have k1 := bf0 vs hv ks d k 0 h3
  have k2 := bf1 vs hv cs d h4
  simp only [A1]
  split
  ·rename_i hC
   split
   ·exact hv _ (List.getElem_mem _)
   ·refine ⟨by rw [S4]; exact h1, fun e => ?_, k1, k2⟩
    rw [hC.1] at e; cases e
  ·exact ⟨by rw [S4]; exact h1, h2, k1, k2⟩
theorem bf0 (vs : List Tm) (hv : ∀ v ∈ vs, shT v) : ∀ (ks : List Tm) (d k : Int) (i : Nat), shL ks → shL (P4 vs d k i ks)
 | [], _, _, _, _ => trivial
 | t :: ts, d, k, i, h => ⟨as6 vs hv t _ h.1, bf0 vs hv ts d k (i + 1) h.2⟩
theorem bf1 (vs : List Tm) (hv : ∀ v ∈ vs, shT v) : ∀ (cs : List Cs) (d : Int), shC cs → shC (L5 vs d cs)
 | [], _, _ => trivial
 | c :: cs, d, h => ⟨bJ9 vs hv c d h.1, bf1 vs hv cs d h.2⟩
theorem bJ9 (vs : List Tm) (hv : ∀ v ∈ vs, shT v) : ∀ (c : Cs) (d : Int), shS c → shS (aA2 vs d c)
 | .mk q t, d, h => as6 vs hv t _ h
end
theorem M4 {t x : Tm} {i : Nat} (h : shT t) (hx : t.kids[i]? = some x) : shT x := by
 obtain ⟨k, n, r, ks, cs⟩ := t
 exact aF9 h.2.2.1 _ (List.mem_of_getElem? hx)
theorem F4 : ∀ {t : Tm} {p : List Nat}, shT t → shT (b8 t p)
 | t, [], h => h
 | t, i :: p, h => by
  simp only [b8]
  split
  ·rename_i x hx; exact F4 (M4 h hx)
  ·exact h
theorem bf3 : ∀ {ks : List Tm} {j : Nat} {x : Tm}, shL ks → shT x → shL (ks.set j x)
 | [], _, _, _, _ => trivial
 | t :: ts, 0, x, h, hx => ⟨hx, h.2⟩
 | t :: ts, j + 1, x, h, hx => ⟨h.1, bf3 h.2 hx⟩
theorem bW5 {t x : Tm} {j : Nat} (h : shT t) (hx : shT x) : shT (J3 t j x) := by
 obtain ⟨k, n, r, ks, cs⟩ := t
 exact ⟨by rw [List.length_set]; exact h.1, h.2.1, bf3 h.2.2.1 hx, h.2.2.2⟩
theorem ap7 {t : Tm} {p : List Nat} (hok : okP t p) (ht : shT t) (lo : Nat) : ∀ (hi : Nat) (x : Tm), hi ≤ p.length → shT x → shT (q7 (j4 t p) p lo hi x)
 | 0, x, _, h => h
 | n + 1, x, hn, h => by
  simp only [q7]
  split
  ·exact h
  ·rw [y6 hok (by omega), List.getElem?_eq_getElem (show n < p.length by omega)]
   exact ap7 hok ht lo n _ (by omega) (bW5 (F4 ht) h)
mutual
theorem bf2 : ∀ (p : Pat) (v : Tm), shT v → ∀ x ∈ (t9 p v).1, shT x
 | .mk k n r ks, v, h, x, hx => by
  simp only [t9] at hx
  split at hx
  ·simp at hx; rw [hx]; exact h
  ·split at hx
   ·simp at hx
   ·split at hx
    ·split at hx
     ·simp at hx
     ·obtain ⟨k', n', r', ks', cs'⟩ := v
      exact aM3 ks ks' h.2.2.1 x hx
    ·simp at hx
theorem aM3 : ∀ (ps : List Pat) (vs : List Tm), shL vs → ∀ x ∈ (n5 ps vs).1, shT x
 | [], vs, _, x, hx => by simp [n5] at hx
 | _ :: _, [], _, x, hx => by simp [n5] at hx
 | p :: ps, v :: vs, h, x, hx => by
  simp only [n5, H4] at hx
  split at hx
  ·rcases List.mem_append.1 hx with h' | h'
   ·exact bf2 p v h.1 x h'
   ·exact aM3 ps vs h.2 x h'
  ·simp at hx
end
theorem aM2 : ∀ (cs : List Cs) (v : Tm), shC cs → shT v → shT (q9 cs v)
 | [], v, _, _ => H9
 | .mk q b :: cs, v, h, hv => by
  simp only [q9]
  split
  ·exact as6 _ (bf2 q v hv) b 0 h.1
  ·exact aM2 cs v h.2 hv
mutual
theorem ah7 (vs : List Tm) (B : Nat) (hv : ∀ v ∈ vs, a5 v ≤ B) : ∀ (t : Tm) (d : Int), a5 (A1 vs d t) ≤ a5 t * (1 + B)
 | .mk k n r ks cs, d => by
  have k1 := aB9 vs B hv ks d k 0
  have k2 := aC0 vs B hv cs d
  have e : a5 (.mk k n r ks cs) * (1 + B) = (1 + B) + c7 ks * (1 + B) + d6 cs * (1 + B) := by simp only [a5]; rw [Nat.add_mul, Nat.add_mul, Nat.one_mul]
  rw [e]
  simp only [A1]
  split
  ·split
   ·have := hv _ (List.getElem_mem (l := vs) (n := vs.length - 1 - (IntKind.wrap .i64 (n - d)).toNat) (by omega))
    omega
   ·simp only [a5]; omega
  ·simp only [a5]; omega
theorem aB9 (vs : List Tm) (B : Nat) (hv : ∀ v ∈ vs, a5 v ≤ B) : ∀ (ks : List Tm) (d k : Int) (i : Nat), c7 (P4 vs d k i ks) ≤ c7 ks * (1 + B)
 | [], _, _, _ => by simp [P4, c7]
 | t :: ts, d, k, i => by
  have h1 := ah7 vs B hv t (d + j0 k i)
  have h2 := aB9 vs B hv ts d k (i + 1)
  simp only [P4, c7, Nat.add_mul]; omega
theorem aC0 (vs : List Tm) (B : Nat) (hv : ∀ v ∈ vs, a5 v ≤ B) : ∀ (cs : List Cs) (d : Int), d6 (L5 vs d cs) ≤ d6 cs * (1 + B)
 | [], _ => by simp [L5, d6]
 | c :: cs, d => by
  have h1 := bo8 vs B hv c d
  have h2 := aC0 vs B hv cs d
  simp only [L5, d6, Nat.add_mul]; omega
theorem bo8 (vs : List Tm) (B : Nat) (hv : ∀ v ∈ vs, a5 v ≤ B) : ∀ (c : Cs) (d : Int), u7 (aA2 vs d c) ≤ u7 c * (1 + B)
 | .mk q t, d => by
  have h1 := ah7 vs B hv t (d + j2 q)
  have h2 : k9 q ≤ k9 q * (1 + B) := Nat.le_mul_of_pos_right _ (by omega)
  simp only [aA2, u7, Nat.add_mul] at h1 h2 ⊢; omega
end
theorem av7 : ∀ (cs : List Cs) (v : Tm), a5 (q9 cs v) ≤ (1 + d6 cs) * (1 + a5 v)
 | [], v => by simp [q9, p7, a5, c7, d6]
 | .mk q b :: cs, v => by
  have h1 := ah7 (t9 q v).1 (a5 v) (aI5 q v) b 0
  have h2 := av7 cs v
  have h3 : a5 b * (1 + a5 v) ≤ (1 + (k9 q + a5 b + d6 cs)) * (1 + a5 v) := Nat.mul_le_mul_right _ (by omega)
  have h4 : (1 + d6 cs) * (1 + a5 v) ≤ (1 + (k9 q + a5 b + d6 cs)) * (1 + a5 v) := Nat.mul_le_mul_right _ (by omega)
  simp only [q9, d6, u7]
  split <;> omega
end
section
variable {G : List (Nat × TypeId × Pu)}
theorem x9 {a b : Int} (h : orE a b = 0) : a = 0 ∧ b = 0 := by
 unfold orE at h
 split at h
 ·exact ⟨by assumption, h⟩
 ·contradiction
theorem aX7 {m d b k n : Int} {r : List Int} {nk nc : Int} (h : d8 m d b k n r nk nc = 0) : s8 k nk = true ∧ (k = 11 → 0 ≤ n ∧ n ≤ 7) := by
 unfold d8 at h
 cases h1 : B9 k 1 12 with
 | true => simp [h1] at h
 | false =>
 cases h2 : u5 (y8 k) (C9 k) (x4 k) n r nc with
 | true => simp [h1, h2] at h
 | false =>
 cases h3 : (!s8 k nk || decide (nc > 8)) with
 | true => rw [h1, h2, h3] at h; simp at h
 | false =>
 rw [h1, h2, h3] at h
 refine ⟨by simp at h3; exact h3.1, fun e => ?_⟩
 subst e
 simp [B9] at h
 omega
mutual
theorem aK1 {m d : Int} : ∀ (t : Tm) (b : Int), N0 m d b t = 0 → shT t
 | .mk k n r ks cs, b, h => by
  simp only [N0] at h
  obtain ⟨h1, h⟩ := x9 h
  obtain ⟨_, h⟩ := x9 h
  obtain ⟨h2, h3⟩ := x9 h
  obtain ⟨k1, k2⟩ := aX7 h1
  exact ⟨k1, k2, aV6 ks b k 0 h2, aV9 cs b h3⟩
theorem aV6 {m d : Int} : ∀ (ks : List Tm) (b k : Int) (i : Nat), T4 m d b k i ks = 0 → shL ks
 | [], _, _, _, _ => trivial
 | t :: ts, b, k, i, h => by
  simp only [T4] at h
  obtain ⟨h1, h2⟩ := x9 h
  exact ⟨aK1 t _ h1, aV6 ts b k (i + 1) h2⟩
theorem aV9 {m d : Int} : ∀ (cs : List Cs) (b : Int), T5 m d b cs = 0 → shC cs
 | [], _, _ => trivial
 | c :: cs, b, h => by
  simp only [T5] at h
  obtain ⟨h1, h2⟩ := x9 h
  exact ⟨bI5 c b h1, aV9 cs b h2⟩
theorem bI5 {m d : Int} : ∀ (c : Cs) (b : Int), am8 m d b c = 0 → shS c
 | .mk q t, b, h => aK1 t _ h
end
theorem D8 {t : Tm} {d m : Int} (h : p9 t d m = 0) : shT t ∧ a5 t ≤ 300 := by
 unfold p9 at h
 split at h
 ·cases h
 ·rename_i hl
  have := ac9 (mn := 300) (md := 60) (t := t) (d := 1) (c := 0) (by omega) (by simpa using hl)
  exact ⟨aK1 t 0 h, by omega⟩
def bd5 (w : Tm) : Tm := match w.kids[0]?, w.kids[1]? with
 | some f, some x => match f.kids[0]? with
  | some b => A1 [x] 0 b
  | none => p7
 | _, _ => p7
def ai6 (w : Tm) : Tm := match w.kids[0]?, w.kids[1]? with
 | some x, some b => A1 [x] 0 b
 | _, _ => p7
def aZ9 (w : Tm) : Tm := match w.kids[0]?, w.kids[1]? with
 | some x, some y => Z8 w.num x.num y.num
 | _, _ => p7
def ba8 (w : Tm) : Tm := match w.kids[0]? with
 | some v => q9 w.cases v
 | none => p7
def doM (t0 : Tm) (p : List Nat) : Tm :=
 match (b8 t0 p).kids[0]?, (b8 t0 (p.take (r7 (j4 t0 p) (b8 t0 p).ref p.length).toNat)).kids[(2 + (b8 t0 p).num).toNat]? with
 | some a, some b => q7 (j4 t0 p) p 0 (r7 (j4 t0 p) (b8 t0 p).ref p.length).toNat (A1 [a, T3 t0 p (r7 (j4 t0 p) (b8 t0 p).ref p.length).toNat] 0 b)
 | _, _ => p7
def v8 (ts : List KT) (t0 : Tm) (p : List Nat) (k : Int) : Tm :=
 if k = 1 then E4 t0 p (bd5 (b8 t0 p)) else if k = 2 then E4 t0 p (ai6 (b8 t0 p)) else if k = 3 then E4 t0 p ((B2 (b8 t0 p).ref ts).getD p7)
 else if k = 4 then E4 t0 p (aZ9 (b8 t0 p)) else if k = 5 then E4 t0 p (ba8 (b8 t0 p)) else if k = 6 then doM t0 p else E4 t0 p (ai6 (b8 t0 p))
theorem aq5 {k n : Int} {r : List Int} {ks : List Tm} {cs : List Cs} : (Tm.mk k n r ks cs).kind = k := rfl
theorem bA9 {k n : Int} {r : List Int} {ks : List Tm} {cs : List Cs} : (Tm.mk k n r ks cs).num = n := rfl
theorem aZ7 {k n : Int} {r : List Int} {ks : List Tm} {cs : List Cs} : (Tm.mk k n r ks cs).ref = r := rfl
theorem V4 {k n : Int} {r : List Int} {ks : List Tm} {cs : List Cs} : (Tm.mk k n r ks cs).kids = ks := rfl
theorem D5 {ts : List KT} {way : List Tm} {len : Nat} {w : Tm} {j : Int} (h : F0 ts way len w = j) :
  (j = 1 → w.kind = 4 ∧ ∃ f, w.kids[0]? = some f ∧ f.kind = 3) ∧ (j = 2 → w.kind = 5) ∧ (j = 3 → w.kind = 6 ∧ (B2 w.ref ts).isSome = true) ∧ (j = 4 → w.kind = 10) ∧ (j = 5 → w.kind = 9) ∧
  (j = 6 → w.kind = 11 ∧ 0 ≤ r7 way w.ref len ∧ ∃ x, way[(r7 way w.ref len).toNat]? = some x ∧ (x.kids.length : Int) > 2 + w.num) ∧ (j = 7 → w.kind = 12) ∧ (1 ≤ j ∧ j ≤ 9) ∧ (j = 9 → w.kind = 11) := by
 obtain ⟨k, n, r, ks, cs⟩ := w
 simp only [aq5, V4, aZ7, bA9]
 simp only [F0] at h
 subst h
 split
 ·subst k
  cases hf : ks[0]? with
  | none => simp
  | some f =>
   simp only
   generalize hb : (f.kind == 3) = bb
   cases bb
   ·simp
   ·have : f.kind = 3 := by simpa using hb
    simp [this]
 ·split
  ·simp_all
  ·split
   ·subst k
    generalize hb : (B2 r ts).isSome = bb
    cases bb <;> simp
   ·split
    ·generalize hb : ks.all (fun x => x.kind == 2) = bb
     cases bb <;> simp_all
    ·split
     ·subst k
      cases hf : ks[0]? with
      | none => simp
      | some f =>
       simp only
       generalize hb : ((q9 cs f).kind != 0) = bb
       cases bb <;> simp
     ·split
      ·subst k
       split
       ·simp
       ·rename_i hn
        cases hx : way[(r7 way r len).toNat]? with
        | none => simp
        | some x =>
         simp only
         generalize hb : decide ((x.kids.length : Int) > 2 + n) = bb
         cases bb
         ·simp
         ·have := of_decide_eq_true hb
          simp only [cond_true]
          refine ⟨fun e => by omega, fun e => by omega, fun e => by omega, fun e => by omega, fun e => by omega, fun _ => ⟨trivial, by omega, x, rfl, this⟩, fun e => by omega, by omega, fun e => by omega⟩
      ·split
       ·simp_all
       ·simp
theorem bq5 {t : Tm} (h : shT t) (hk : t.kind = 4 ∨ t.kind = 5 ∨ t.kind = 10) : ∃ x y, t.kids[0]? = some x ∧ t.kids[1]? = some y := by
 obtain ⟨k, n, r, ks, cs⟩ := t
 have := h.1
 simp only [Tm.kind, Tm.kids] at hk ⊢
 have hl : ks.length = 2 := by rcases hk with rfl | rfl | rfl <;> simp [s8] at this <;> omega
 exact ⟨ks[0], ks[1], by simp [hl], by simp [hl]⟩
theorem bq6 {t : Tm} (h : shT t) (hk : t.kind = 3 ∨ t.kind = 9 ∨ t.kind = 11) : ∃ x, t.kids[0]? = some x := by
 obtain ⟨k, n, r, ks, cs⟩ := t
 have := h.1
 simp only [Tm.kind, Tm.kids] at hk ⊢
 have hl : ks.length = 1 := by rcases hk with rfl | rfl | rfl <;> simp [s8] at this <;> omega
 exact ⟨ks[0], by simp [hl]⟩
theorem bU0 {t : Tm} (h : shT t) (hk : t.kind = 12) : ∃ x y, t.kids[0]? = some x ∧ t.kids[1]? = some y := by
 obtain ⟨k, n, r, ks, cs⟩ := t
 have := h.1
 simp only [Tm.kind, Tm.kids] at hk ⊢
 have hl : 2 ≤ ks.length := by subst hk; simp [s8, B9] at this; omega
 exact ⟨ks[0], ks[1], List.getElem?_eq_getElem _, List.getElem?_eq_getElem _⟩
end
section
variable {G : List (Nat × TypeId × Pu)}
theorem aw2 {P : Program} (t : Tm) : ∀ m, VImp P (.pu (tmc m t)) (.pu (tmc 0 t)) := fun m => (E6 (Nat.zero_le m) t).imp
theorem bQ0 {ts : List KT} {t0 : Tm} {p : List Nat} (hs : shT t0) (hok : okP t0 p) (hN : a5 t0 < 2^28) (hk : D6 ts t0 p = 1) : HCall Tryz.prog G 152 [.pu (E3 p (j4 t0 p)), .ptr 831 [] 36] [(831, .var 36 (fV 155))] [] (.pu (tmc 0 (v8 ts t0 p 1))) [] [] := by
 obtain ⟨h4, f, hf, hf3⟩ := (D5 hk).1 rfl
 have hw := F4 (p := p) hs
 obtain ⟨x, y, hx, hy⟩ := bq5 hw (.inl h4)
 obtain ⟨b, hb⟩ := bq6 (M4 hw hf) (.inl hf3)
 have hsz := t7 (t := t0) (p := p)
 have e : v8 ts t0 p 1 = E4 t0 p (A1 [y] 0 b) := by simp [v8, bd5, hf, hy, hb]
 rw [e];exact br5 _ (by kernel_rfl) t0 p hok hN _ ((bR5 (b8 t0 p) f y b hf hy hb (by omega)).at (aw2 _))
theorem bP9 {ts : List KT} {t0 : Tm} {p : List Nat} (hs : shT t0) (hok : okP t0 p) (hN : a5 t0 < 2^28) (hk : D6 ts t0 p = 2) : HCall Tryz.prog G 152 [.pu (E3 p (j4 t0 p)), .ptr 832 [] 36] [(832, .var 36 (fV 157))] [] (.pu (tmc 0 (v8 ts t0 p 2))) [] [] := by
 have h5 := (D5 hk).2.1 rfl
 have hw := F4 (p := p) hs
 obtain ⟨x, y, hx, hy⟩ := bq5 hw (.inr (.inl h5))
 have hsz := t7 (t := t0) (p := p)
 have e : v8 ts t0 p 2 = E4 t0 p (A1 [x] 0 y) := by simp [v8, ai6, hx, hy]
 rw [e];exact br4 _ (by kernel_rfl) t0 p hok hN _ ((bR3 (b8 t0 p) x y hx hy (by omega)).at (aw2 _))
theorem bP8 (a b : Pu) {ts : List KT} (hts : ∀ x ∈ ts, x.1.length = 32) {t0 : Tm} {p : List Nat} (hok : okP t0 p) (hN : a5 t0 < 2^28) (hk : D6 ts t0 p = 3) : HCall Tryz.prog G 152 [.pu (E3 p (j4 t0 p)), .ptr 833 [] 36] (ruO a b ts) [] (.pu (tmc 0 (v8 ts t0 p 3))) [] [] := by
 obtain ⟨_, h6⟩ := (D5 hk).2.2.1 rfl
 obtain ⟨y, hy⟩ := Option.isSome_iff_exists.1 h6
 have e : v8 ts t0 p 3 = E4 t0 p y := by simp [v8, hy]
 rw [e];exact br3 a b ts hts t0 p hok hN y hy
theorem bP7 {ts : List KT} {t0 : Tm} {p : List Nat} (hs : shT t0) (hok : okP t0 p) (hN : a5 t0 < 2^28) (hk : D6 ts t0 p = 4) : HCall Tryz.prog G 152 [.pu (E3 p (j4 t0 p)), .ptr 834 [] 36] [(834, .var 36 (fV 159))] [] (.pu (tmc 0 (v8 ts t0 p 4))) [] [] := by
 have h10 := (D5 hk).2.2.2.1 rfl
 have hw := F4 (p := p) hs
 obtain ⟨x, y, hx, hy⟩ := bq5 hw (.inr (.inr h10))
 have e : v8 ts t0 p 4 = E4 t0 p (Z8 (b8 t0 p).num x.num y.num) := by simp [v8, aZ9, hx, hy]
 rw [e];refine br2 _ (by kernel_rfl) t0 p hok hN _ ?_
 generalize b8 t0 p = w at hx hy ⊢
 obtain ⟨k, n, r, ks, cs⟩ := w
 simp only [V4] at hx hy
 obtain ⟨hx1, hx2⟩ := List.getElem?_eq_some_iff.1 hx
 obtain ⟨hy1, hy2⟩ := List.getElem?_eq_some_iff.1 hy
 subst hx2 hy2;exact (bX6 k n r ks cs (by omega)).at (aw2 _)
theorem bP6 {ts : List KT} {t0 : Tm} {p : List Nat} (hs : shT t0) (hok : okP t0 p) (hN : a5 t0 < 2^28) (hk : D6 ts t0 p = 5) : HCall Tryz.prog G 152 [.pu (E3 p (j4 t0 p)), .ptr 835 [] 36] [(835, .var 36 (fV 160))] [] (.pu (tmc 0 (v8 ts t0 p 5))) [] [] := by
 have h9 := (D5 hk).2.2.2.2.1 rfl
 have hw := F4 (p := p) hs
 obtain ⟨x, hx⟩ := bq6 hw (.inr (.inl h9))
 have hsz := t7 (t := t0) (p := p)
 have e : v8 ts t0 p 5 = E4 t0 p (q9 (b8 t0 p).cases x) := by simp [v8, ba8, hx]
 rw [e];refine br1 _ (by kernel_rfl) t0 p hok hN _ ?_
 generalize b8 t0 p = w at hx hsz ⊢
 obtain ⟨k, n, r, ks, cs⟩ := w
 simp only [V4] at hx
 obtain ⟨hx1, hx2⟩ := List.getElem?_eq_some_iff.1 hx
 subst hx2;exact (aC8 k n r ks cs (by omega) (by omega)).at (aw2 _)
theorem bP5 {ts : List KT} {t0 : Tm} {p : List Nat} (hs : shT t0) (hok : okP t0 p) (hN : a5 t0 < 2^28) (hk : D6 ts t0 p = 6) : FCall Tryz.prog G 161 [.pu (E3 p (j4 t0 p))] (.pu (tmc 0 (v8 ts t0 p 6))) := by
 obtain ⟨h11, hn0, x, hx1, hx2⟩ := (D5 hk).2.2.2.2.2.1 rfl
 have hw := F4 (p := p) hs
 obtain ⟨v, hv⟩ := bq6 hw (.inr (.inr h11))
 have hlt := V6 (j4 t0 p) (b8 t0 p).ref p.length
 have hnum : 0 ≤ (b8 t0 p).num ∧ (b8 t0 p).num ≤ 7 := by
  generalize b8 t0 p = w at hw h11 ⊢
  obtain ⟨k, n, r, ks, cs⟩ := w
  exact hw.2.1 h11
 obtain ⟨nn, hnn⟩ : ∃ nn, nn = (r7 (j4 t0 p) (b8 t0 p).ref p.length).toNat := ⟨_, rfl⟩
 have hnp : nn < p.length := by omega
 rw [← hnn, y6 hok (by omega)] at hx1
 simp only [Option.some.injEq] at hx1
 obtain ⟨b, hb⟩ : ∃ b, (b8 t0 (p.take nn)).kids[(2 + (b8 t0 p).num).toNat]? = some b := by
  rw [hx1];exact ⟨_, List.getElem?_eq_getElem (by omega)⟩
 have e : v8 ts t0 p 6 = q7 (j4 t0 p) p 0 nn (A1 [v, T3 t0 p nn] 0 b) := by
  simp only [v8, doM, ← hnn, hv, hb]; rfl
 rw [e];exact do_c t0 p hok hN nn v b (by omega) hnp ⟨hnum.1, by omega⟩ hv hb
theorem bP4 {ts : List KT} {t0 : Tm} {p : List Nat} (hs : shT t0) (hok : okP t0 p) (hN : a5 t0 < 2^28) (hk : D6 ts t0 p = 7) : HCall Tryz.prog G 152 [.pu (E3 p (j4 t0 p)), .ptr 836 [] 36] [(836, .var 36 (fV 162))] [] (.pu (tmc 0 (v8 ts t0 p 7))) [] [] := by
 have h12 := (D5 hk).2.2.2.2.2.2.1 rfl
 have hw := F4 (p := p) hs
 obtain ⟨x, y, hx, hy⟩ := bU0 hw h12
 have hsz := t7 (t := t0) (p := p)
 have e : v8 ts t0 p 7 = E4 t0 p (A1 [x] 0 y) := by simp [v8, ai6, hx, hy]
 rw [e];exact br0 _ (by kernel_rfl) t0 p hok hN _ ((bR2 (b8 t0 p) x y hx hy (by omega)).at (aw2 _))
theorem bK0 (op a b : Int) : shT (Z8 op a b) := bW6 _
theorem bx2 {s : List Int} {y : Tm} : ∀ {ts : List KT}, (∀ x ∈ ts, shT x.2) → B2 s ts = some y → shT y
 | [], _, h => by cases h
 | x :: ts, h, hy => by
  simp only [B2] at hy
  split at hy
  ·simp at hy; rw [← hy]; exact h x (by simp)
  ·exact bx2 (fun z hz => h z (by simp [hz])) hy
theorem bw2 {s : List Int} {y : Tm} {B : Nat} : ∀ {ts : List KT}, (∀ x ∈ ts, a5 x.2 ≤ B) → B2 s ts = some y → a5 y ≤ B
 | [], _, h => by cases h
 | x :: ts, h, hy => by
  simp only [B2] at hy
  split at hy
  ·simp at hy; rw [← hy]; exact h x (by simp)
  ·exact bw2 (fun z hz => h z (by simp [hz])) hy
theorem aJ3 {ts : List KT} (hb : ∀ x ∈ ts, shT x.2) {t0 : Tm} {p : List Nat} (hs : shT t0) (hok : okP t0 p) (k : Int) : shT (v8 ts t0 p k) := by
 have hw := F4 (p := p) hs
 have here : ∀ y, shT y → shT (E4 t0 p y) := fun y hy => ap7 hok hs 0 _ _ (Nat.le_refl _) hy
 have hput : ∀ x y, shT x → shT y → shT (A1 [x] 0 y) := fun x y hx hy => as6 _ (fun v hv => by simp at hv; rw [hv]; exact hx) _ _ hy
 have hlet : shT (ai6 (b8 t0 p)) := by
  unfold ai6
  split
  ·rename_i x b h1 h2; exact hput _ _ (M4 hw h1) (M4 hw h2)
  ·exact H9
 unfold v8
 split
 ·refine here _ ?_
  unfold bd5
  split
  ·rename_i f x h1 h2
   split
   ·rename_i b h3; exact hput _ _ (M4 hw h2) (M4 (M4 hw h1) h3)
   ·exact H9
  ·exact H9
 split
 ·exact here _ hlet
 split
 ·refine here _ ?_
  cases hy : B2 (b8 t0 p).ref ts with
  | none => exact H9
  | some y => exact bx2 hb hy
 split
 ·refine here _ ?_
  unfold aZ9
  split
  ·exact bK0 _ _ _
  ·exact H9
 split
 ·refine here _ ?_
  unfold ba8
  split
  ·rename_i v hv
   have hv' := M4 hw hv
   generalize b8 t0 p = w at hw
   obtain ⟨k, n, r, ks, cs⟩ := w
   exact aM2 _ _ hw.2.2.2 hv'
  ·exact H9
 split
 ·unfold doM
  split
  ·rename_i a b h1 h2
   have hlt := V6 (j4 t0 p) (b8 t0 p).ref p.length
   refine ap7 hok hs 0 _ _ (by omega) (as6 _ (fun v hv => ?_) _ _ (M4 (F4 hs) h2))
   simp at hv
   rcases hv with rfl | rfl
   ·exact M4 hw h1
   ·refine ⟨by simp [s8], fun e => (by cases e), ⟨ap7 hok hs _ _ _ (Nat.le_refl _) bW4, trivial⟩, trivial⟩
  ·exact H9
 ·exact here _ hlet
theorem bP0 {ts : List KT} (hb : ∀ x ∈ ts, a5 x.2 ≤ 300) {t0 : Tm} {p : List Nat} (hok : okP t0 p) (hN : a5 t0 ≤ 3000) (k : Int) : a5 (v8 ts t0 p k) ≤ 9012000 := by
 have hw := t7 (t := t0) (p := p)
 have hn1 : a5 p7 = 1 := by simp [p7, a5, c7, d6]
 have here : ∀ y, a5 y ≤ 9009000 → a5 (E4 t0 p y) ≤ 9012000 := fun y hy => by
  have := ad2 hok 0 p.length y (Nat.le_refl _)
  unfold E4; omega
 have hput : ∀ (vs : List Tm) y, (∀ v ∈ vs, a5 v ≤ 3002) → a5 y ≤ 3000 → a5 (A1 vs 0 y) ≤ 9009000 := fun vs y hv hy => by
  have h1 := ah7 vs 3002 hv y 0
  have h2 : a5 y * (1 + 3002) ≤ 9009000 := by omega
  omega
 have hlet : a5 (ai6 (b8 t0 p)) ≤ 9009000 := by
  unfold ai6
  split
  ·rename_i x b h1 h2
   have := o7 h1; have := o7 h2
   exact hput _ _ (fun v hv => by simp at hv; subst hv; omega) (by omega)
  ·omega
 unfold v8
 split
 ·refine here _ ?_
  unfold bd5
  split
  ·rename_i f x h1 h2
   split
   ·rename_i b h3
    have := o7 h1; have := o7 h2; have := o7 h3
    exact hput _ _ (fun v hv => by simp at hv; subst hv; omega) (by omega)
   ·omega
  ·omega
 split
 ·exact here _ hlet
 split
 ·refine here _ ?_
  cases hy : B2 (b8 t0 p).ref ts with
  | none => simp only [Option.getD]; omega
  | some y => have := bw2 hb hy; simp only [Option.getD]; omega
 split
 ·refine here _ ?_
  unfold aZ9
  split
  ·simp [Z8, aP5, a5, c7, d6]
  ·omega
 split
 ·refine here _ ?_
  unfold ba8
  split
  ·rename_i v hv
   have h1 := o7 hv
   have h2 := av7 (b8 t0 p).cases v
   have h3 : 1 + d6 (b8 t0 p).cases ≤ 3000 := by
    generalize b8 t0 p = w at hw
    obtain ⟨k, n, r, ks, cs⟩ := w
    simp only [a5] at hw
    simp only [Tm.cases]; omega
   have h4 : (1 + d6 (b8 t0 p).cases) * (1 + a5 v) ≤ 9009000 := by
    have := Nat.mul_le_mul h3 (show 1 + a5 v ≤ 3001 by omega)
    omega
   omega
  ·omega
 split
 ·unfold doM
  split
  ·rename_i a b h1 h2
   have hlt := V6 (j4 t0 p) (b8 t0 p).ref p.length
   have k1 := o7 h1
   have k2 := o7 h2
   have k3 := t7 (t := t0) (p := p.take (r7 (j4 t0 p) (b8 t0 p).ref p.length).toNat)
   have k4 := ad2 hok (r7 (j4 t0 p) (b8 t0 p).ref p.length).toNat p.length ae2 (Nat.le_refl _)
   have hsv : a5 ae2 = 1 := by simp [ae2, a5, c7, d6]
   have k5 := hput [a, T3 t0 p (r7 (j4 t0 p) (b8 t0 p).ref p.length).toNat] b (fun v hv => by
    simp at hv
    rcases hv with rfl | rfl
    ·omega
    ·simp only [T3, a5, c7, d6]; omega) (by omega)
   have k6 := ad2 hok 0 (r7 (j4 t0 p) (b8 t0 p).ref p.length).toNat (A1 [a, T3 t0 p (r7 (j4 t0 p) (b8 t0 p).ref p.length).toNat] 0 b) (by omega)
   omega
  ·omega
 ·exact here _ hlet
end
section
variable {G : List (Nat × TypeId × Pu)}
theorem bL2 (t : Tm) (hN : a5 t < 2^40) : FCall Tryz.prog G 113 [.pu (tmc 0 t)] (bv (p9 t 60 8 == 0)) := by
 refine Fq 6 Tryz.func113 ?_;intro w0 M ρ0 D0
 refine Y44 ?_;refine yB ?_;refine a6 [1] ?_;refine Y5 ?_;refine Dq (aJ7 t hN 60 8) ?_;refine yI ?_;refine Y2 ?_;refine Rq ?_;exact ToPu.imp (by repeat constructor)
structure EndM where
 kind : Int
 steps : Int
 term : Tm
 ref : List Int
 num : Int
def bO7 (e : EndM) : Pu := .agg 65 [.leaf (.int .i64 e.kind), .leaf (.int .i64 e.steps), tmc 0 e.term, f5 e.ref, .leaf (.int .i64 e.num)]
instance (e : EndM) : TyV Tryz.prog 65 (.pu (bO7 e)) := inferInstanceAs (TyV Tryz.prog 65 (.pu (.agg _ _)))
def endZ : EndM := ⟨0, 0, p7, Z32, 0⟩
def Z6 (ts : List KT) (steps : Nat) (t : Tm) : Option EndM :=
 if P2 t then some ⟨0, steps, t, Z32, 0⟩
 else if D6 ts t (d9 t) = 9 then some ⟨9, steps, ((b8 t (d9 t)).kids[0]?).getD p7, (b8 t (d9 t)).ref, (b8 t (d9 t)).num⟩
 else if D6 ts t (d9 t) = 8 then some ⟨8, steps, p7, Z32, 0⟩ else none
def K4 (ts : List KT) (t : Tm) : Tm := v8 ts t (d9 t) (D6 ts t (d9 t))
def D4 (ts : List KT) : Nat → Nat → Tm → EndM × Int
 | 0, steps, t => match Z6 ts steps t with
  | some e => (e, 0)
  | none => (⟨10, steps, p7, Z32, 0⟩, 0)
 | left + 1, steps, t => match Z6 ts steps t with
  | some e => (e, 0)
  | none => if (n3 3000 200 1 0 (K4 ts t)).1 then (endZ, 12) else D4 ts left (steps + 1) (K4 ts t)
theorem at8 {ts : List KT} {left steps : Nat} {t : Tm} {e : EndM} (h : Z6 ts steps t = some e) : D4 ts left steps t = (e, 0) := by
 cases left <;> simp only [D4, h]
abbrev bX5 (x : EndM × Int) : PV := .tup [.pu (bO7 x.1), iv .i64 x.2]
set_option maxHeartbeats 4000000 in
theorem cc5 (a b : Pu) (ts : List KT) (hnd : (ts.map (·.1)).Nodup) (hl : ts.length < 2^40) (hbs : ∀ x ∈ ts, shT x.2) (hbz : ∀ x ∈ ts, a5 x.2 ≤ 300) (t0 : Tm) (hs0 : shT t0) (hz0 : a5 t0 ≤ 3000) (fuel : Nat) (hf : fuel ≤ 2000) :
  FCall Tryz.prog G 112 [.pu (wdP a b ts), .pu (tmc 0 t0), iv .i64 fuel] (bX5 (D4 ts fuel 0 t0)) := by
 refine Fq 73 Tryz.func112 ?_;intro w0 M ρ0 D0
 refine Tri.fact (i := 0) rfl (fun D w x h => bd9 h) (fun hts => ?_);refine Y45 ?_;refine o9 SS 4 ?_;refine a8 SS 6 ?_;refine yB ?_;refine a6 [3, 4, 6] ?_;refine Y5 ?_;refine a9 (aP1 a b ts hnd hl) ?_;refine yA ?_;refine a6 [822, 820, 823, 831, 832, 833, 834, 835, 836] ?_;refine Y15 ?_;refine Y31 ?_
 refine Tri.block (Tri.loopW (σ := {q : Nat × Tm // q.1 ≤ fuel ∧ D4 ts fuel 0 t0 = D4 ts (fuel - q.1) q.1 q.2 ∧ shT q.2 ∧ a5 q.2 ≤ 3000}) (fun i => ⟨[(2, iv .i64 fuel), (4, .ptr 4 [] 32), (6, .ptr 6 [] 65), (8, .ptr 820 [] 181), (17, iv .i64 (fuel + 1)), (18, iv .i64 i.1.1)], [(4, .var 32 (.pu (tmc 0 i.1.2))), (6, .var 65 (.agg 65 [iv .i64 0, iv .i64 0, .agg 32 [iv .i64 0, iv .i64 0, .pu (f5 Z32), .nilc, .nilc], .pu (f5 Z32), iv .i64 0]))] ++ ruO a b ts⟩) (fun i => fuel - i.1.1) ⟨(0, t0), Nat.zero_le _, rfl, hs0, hz0⟩ ?_ ?_ (fun i => ?_))
 ·exact zk4
 ·exact zk4
 refine Y30 ?_;refine Cq ?_ ?_
 ·intro h0
  obtain ⟨⟨st, t⟩, hst, hrn, hsh, hsz⟩ := i
  dsimp only at hst hrn hsh hsz ⊢
  have hok := H5 hsh
  have hN : a5 t < 2^28 := by omega
  have hwl := E5 hok
  have hat := aJ9 (G := G) (d9 t) (j4 t (d9 t)) (by omega)
  have hwg := y6 hok (Nat.le_refl (d9 t).length)
  rw [List.take_length, List.getElem?_eq_getElem (by omega)] at hwg
  simp only [Option.some.injEq] at hwg
  rw [hwg] at hat
  have hwsh := F4 (p := d9 t) hsh
  have hkc := bC7 (G := G) a b ts hts t (d9 t) hok hN (by generalize b8 t (d9 t) = w at hwsh; obtain ⟨k, n, r, ks, cs⟩ := w; exact hwsh.1) (by generalize b8 t (d9 t) = w at hwsh; obtain ⟨k, n, r, ks, cs⟩ := w; exact hwsh.2.1)
  have hki := D5 (show F0 ts (j4 t (d9 t)) (d9 t).length (b8 t (d9 t)) = D6 ts t (d9 t) from rfl)
  generalize hkk : D6 ts t (d9 t) = kk at hkc hki
  refine Y57 ?_;refine Y12 ?_;refine Y5 ?_;refine Dq (aF1 _ t (Nat.le_refl _) (by omega)) ?_;refine Y0 ?_;refine Cq ?_ ?_
  ·intro h1
   have hfin : D4 ts fuel 0 t0 = (⟨0, st, t, Z32, 0⟩, 0) := by rw [hrn]; exact at8 (by simp only [Z6, h1, if_true])
   refine Y40 ?_;refine yP ?_;refine yS ?_;refine Y62 ?_;exact Tri.ret ⟨.inr rfl, K8 rfl n9 ((by rw [hfin]; exact ToPu.imp (by repeat constructor))) b6 ((by rw [hfin]; exact VImp.refl _))⟩
  ·intro h1
   have hv : ¬ P2 t = true := by rw [h1]; decide
   refine Tri.skip ?_;refine Y5 ?_;refine Dq (bj4 t hsh (by omega)) ?_;refine a8 SS 10 ?_;refine yS ?_;refine a6 [10] ?_;refine Y40 ?_;refine b5 (p6 (fun _ => hkc)) ?_;refine Y12 ?_;refine Y5 ?_;refine Dq hat ?_;refine a8 SS 12 ?_;refine yS ?_;refine a6 [12] ?_;refine Y77 ?_;refine Y46 ?_;refine Cq ?_ ?_
   ·intro h2
    have h9 : kk = 9 := by simpa using h2
    obtain ⟨x, hx⟩ := bq6 hwsh (.inr (.inr (hki.2.2.2.2.2.2.2.2 h9)))
    have hfin : D4 ts fuel 0 t0 = (⟨9, st, x, (b8 t (d9 t)).ref, (b8 t (d9 t)).num⟩, 0) := by rw [hrn]; exact at8 (by simp only [Z6, if_neg hv, hkk, h9, if_true, hx, Option.getD])
    generalize b8 t (d9 t) = w at hx hfin ⊢
    obtain ⟨k, n, r, ks, cs⟩ := w
    simp only [V4, aZ7, bA9] at hx hfin
    have hxg : (l5 0 ks)[0]? = some (tmc 0 x) := by simp [o8, hx]
    refine Y1 ?_;refine Y8 ?_;refine Xq hxg ?_;refine yL ?_;refine Y3 ?_;refine Y3 ?_;refine yP ?_;refine yS ?_;refine yB ?_;refine Y23 ?_;exact Tri.ret ⟨.inr rfl, K8 rfl n9 ((by rw [hfin]; exact ToPu.imp (by repeat constructor))) b6 ((by rw [hfin]; exact VImp.refl _))⟩
   ·intro h2
    have h9 : ¬ kk = 9 := by simpa using h2
    refine Y46 ?_;refine Cq ?_ ?_
    ·intro h3
     have h8 : kk = 8 := by simpa using h3
     have hfin : D4 ts fuel 0 t0 = (⟨8, st, p7, Z32, 0⟩, 0) := by rw [hrn]; exact at8 (by simp only [Z6, if_neg hv, hkk, h8]; rfl)
     refine Y1 ?_;refine yP ?_;refine yS ?_;refine Y62 ?_;exact Tri.ret ⟨.inr rfl, K8 rfl n9 ((by rw [hfin]; exact ToPu.imp (by unfold p7; repeat constructor))) b6 ((by rw [hfin]; exact VImp.refl _))⟩
    ·intro h3
     have h8 : ¬ kk = 8 := by simpa using h3
     have hre : Z6 ts st t = none := by simp only [Z6, if_neg hv, hkk, if_neg h9, if_neg h8]
     refine Y32 ?_;refine yI ?_;refine Y2 ?_;refine Cq ?_ ?_
     ·intro h4
      have hsf : st = fuel := by simp at h4; omega
      have hfin : D4 ts fuel 0 t0 = (⟨10, st, p7, Z32, 0⟩, 0) := by rw [hrn, show fuel - st = 0 by omega]; simp only [D4, hre]
      refine Y1 ?_;refine yP ?_;refine yS ?_;refine Y62 ?_;exact Tri.ret ⟨.inr rfl, K8 rfl n9 ((by rw [hfin]; exact ToPu.imp (by unfold p7; repeat constructor))) b6 ((by rw [hfin]; exact VImp.refl _))⟩
     ·intro h4
      have hsf : st < fuel := by simp at h4; omega
      obtain ⟨lf, hlf⟩ : ∃ lf, fuel - st = lf + 1 := ⟨fuel - st - 1, by omega⟩
      rw [hlf] at hrn
      simp only [D4, hre] at hrn
      have hk19 := hki.2.2.2.2.2.2.2.1
      clear hki
      have hnx : K4 ts t = v8 ts t (d9 t) kk := by unfold K4; rw [hkk]
      have hys := aJ3 hbs hsh hok kk
      have hyz := bP0 hbz hok hsz kk
      rw [← hnx] at hys hyz
      obtain rfl | rfl | rfl | rfl | rfl | rfl | rfl : kk = 1 ∨ kk = 2 ∨ kk = 3 ∨ kk = 4 ∨ kk = 5 ∨ kk = 6 ∨ kk = 7 := by omega
      all_goals
       refine Tri.skip ?_;refine Y32 ?_;refine Y60 ?_;refine b5 (ae4 SS) ?_;refine yL ?_;refine Y12 ?_;refine Y40 ?_
       first | refine b5 (p6 (fun _ => bQ0 hsh hok hN hkk)) ?_ | refine b5 (p6 (fun _ => bP9 hsh hok hN hkk)) ?_ | refine b5 (p6 (fun _ => bP8 a b hts hok hN hkk)) ?_ | refine b5 (p6 (fun _ => bP7 hsh hok hN hkk)) ?_ | refine b5 (p6 (fun _ => bP6 hsh hok hN hkk)) ?_ | refine b5 (p6 (fun _ => bP5 hsh hok hN hkk)) ?_ | refine b5 (p6 (fun _ => bP4 hsh hok hN hkk)) ?_
       refine Y17 ?_;rw [← hnx];refine yR ?_;refine yT ?_;refine o9 SS 91 ?_;refine yL ?_;refine a9 (ce5 _ (K4 ts t) (Nat.le_refl _) (by omega) 1 0 (by omega) (by omega)) ?_;refine a6 [91] ?_;refine tQ ?_;refine Cq ?_ ?_
       ·intro h5
        have hfin : D4 ts fuel 0 t0 = (endZ, 12) := by rw [hrn, if_pos h5]
        refine yR ?_;refine yT ?_;refine yS ?_;refine Y62 ?_;exact Tri.ret ⟨.inr rfl, K8 rfl n9 ((by rw [hfin]; exact ToPu.imp (by unfold endZ p7; repeat constructor))) b6 ((by rw [hfin]; exact VImp.refl _))⟩
       ·intro h5
        have hnext : D4 ts fuel 0 t0 = D4 ts (fuel - (st + 1)) (st + 1) (K4 ts t) := by rw [hrn, if_neg (by rw [h5]; decide), show fuel - (st + 1) = lf by omega]
        have hls := ac9 (mn := 3000) (md := 200) (t := K4 ts t) (d := 1) (c := 0) (by omega) h5
        have hszy : a5 (K4 ts t) ≤ 3000 := by omega
        have hshy := hys
        refine Y52 ?_
        refine ⟨⟨(st + 1, K4 ts t), by show st + 1 ≤ fuel; omega, hnext, hshy, hszy⟩, by show fuel - (st + 1) < fuel - st; omega, k7 ?_ ?_⟩
        ·exact zE
        ·exact zH
 ·intro h0;exfalso
  have := i.2.1
  simp at h0
  omega
end
section
variable {G : List (Nat × TypeId × Pu)}
theorem ab2 {α : Type} {f : α → Int} : ∀ {l : List α}, m9 f l = 0 → ∀ x ∈ l, f x = 0
 | [], _, x, h => by cases h
 | a :: l, h, x, hx => by
  simp only [m9] at h
  split at h
  ·rename_i h0
   rcases List.mem_cons.1 hx with rfl | hx
   ·exact h0
   ·exact ab2 h x hx
  ·contradiction
theorem U3 {ts : List KT} {t : Tm} (h : i9 ts t = 0) : ts.length ≤ 40 ∧ (∀ x ∈ ts, p9 x.2 0 0 = 0) ∧ (ts.map (·.1)).Nodup ∧ p9 t 0 0 = 0 := by
 unfold i9 at h
 split at h
 ·cases h
 ·rename_i h1
  obtain ⟨h2, h3⟩ := x9 h
  split at h3
  ·cases h3
  ·rename_i h4
   exact ⟨by simp at h1; omega, ab2 h2, by simpa [bs7] using h4, h3⟩
theorem aN5 {ts : List KT} {steps : Nat} {t : Tm} {e : EndM} (hs : shT t) (h : Z6 ts steps t = some e) : shT e.term ∧ a5 e.term ≤ a5 t := by
 have hn1 : a5 p7 = 1 := by simp [p7, a5, c7, d6]
 have hp := r9 t
 unfold Z6 at h
 split at h
 ·simp at h; subst h; exact ⟨hs, Nat.le_refl _⟩
 ·split at h
  ·simp at h; subst h
   simp only
   cases hk : (b8 t (d9 t)).kids[0]? with
   | none => exact ⟨H9, by simp only [Option.getD]; omega⟩
   | some x =>
    have h1 := o7 hk
    have h2 := t7 (t := t) (p := d9 t)
    exact ⟨M4 (F4 hs) hk, by simp only [Option.getD]; omega⟩
  ·split at h
   ·simp at h; subst h; exact ⟨H9, by simp only; omega⟩
   ·cases h
theorem aG8 {ts : List KT} (hbs : ∀ x ∈ ts, shT x.2) : ∀ (left steps : Nat) (t : Tm), shT t → a5 t ≤ 3000 → shT (D4 ts left steps t).1.term ∧ a5 (D4 ts left steps t).1.term ≤ 3000
 | 0, steps, t, hs, hz => by
  have hn1 : a5 p7 = 1 := by simp [p7, a5, c7, d6]
  simp only [D4]
  split
  ·rename_i e he
   have := aN5 hs he
   exact ⟨this.1, Nat.le_trans this.2 hz⟩
  ·exact ⟨H9, by simp only; omega⟩
 | left + 1, steps, t, hs, hz => by
  have hn1 : a5 p7 = 1 := by simp [p7, a5, c7, d6]
  simp only [D4]
  split
  ·rename_i e he
   have := aN5 hs he
   exact ⟨this.1, Nat.le_trans this.2 hz⟩
  ·split
   ·exact ⟨H9, by simp only [endZ]; omega⟩
   ·rename_i hg
    have hls := ac9 (mn := 3000) (md := 200) (t := K4 ts t) (d := 1) (c := 0) (by omega) (by simpa using hg)
    exact aG8 hbs left (steps + 1) (K4 ts t) (aJ3 hbs hs (H5 hs) _) (by omega)
def E7 (ts : List KT) (t : Tm) (fuel : Int) : EndM × Int :=
 if i9 ts t = 0 then
  if fuel < 0 ∨ 2000 < fuel then (endZ, 3)
  else if (D4 ts fuel.toNat 0 t).2 = 0 then
   if (D4 ts fuel.toNat 0 t).1.kind ≠ 0 ∧ (D4 ts fuel.toNat 0 t).1.kind ≠ 9 then ((D4 ts fuel.toNat 0 t).1, 0)
   else if p9 (D4 ts fuel.toNat 0 t).1.term 60 8 = 0 then ((D4 ts fuel.toNat 0 t).1, 0) else (endZ, 11)
  else (endZ, (D4 ts fuel.toNat 0 t).2)
 else (endZ, i9 ts t)
set_option maxHeartbeats 1000000 in
theorem aN2 (a b : Pu) (ts : List KT) (t : Tm) (fuel : Int) (hts : ∀ x ∈ ts, a5 x.2 < 2^40) (hN : a5 t < 2^40) : FCall Tryz.prog G 35 [.pu (wdP a b ts), .pu (tmc 0 t), iv .i64 fuel] (bX5 (E7 ts t fuel)) := by
 refine Fq 58 Tryz.func35 ?_;intro w0 M ρ0 D0
 refine Y45 ?_;refine o9 SS 4 ?_;refine a8 SS 6 ?_;refine yB ?_;refine a6 [3, 4, 6] ?_;refine Y43 ?_;refine Dq (Z3 a b ts t hts hN) ?_;refine Y12 ?_;refine Y15 ?_;refine Y0 ?_;refine Cq ?_ ?_
 ·intro h0
  have h0' : ¬ i9 ts t = 0 := by simpa using h0
  have hfin : E7 ts t fuel = (endZ, i9 ts t) := by simp only [E7, if_neg h0']
  refine yR ?_;refine yT ?_;refine yM ?_;refine yS ?_;refine Y2 ?_;exact Tri.ret ⟨.inr rfl, K8 rfl n9 ((by rw [hfin]; exact ToPu.imp (by unfold endZ p7; repeat constructor))) b6 ((by rw [hfin]; exact VImp.refl _))⟩
 ·intro h0
  have h0' : i9 ts t = 0 := by simpa using h0
  obtain ⟨k1, k2, k3, k4⟩ := U3 h0'
  obtain ⟨k5, k6⟩ := D8 k4
  refine Tri.skip ?_;refine Y15 ?_;refine Y28 ?_;refine Y34 ?_;refine Y0 ?_;refine Cq ?_ ?_
  ·intro h1
   have h1' : fuel < 0 ∨ 2000 < fuel := by simpa using h1
   have hfin : E7 ts t fuel = (endZ, 3) := by simp only [E7, if_pos h0', if_pos h1']
   refine yR ?_;refine yT ?_;refine yS ?_;refine Y62 ?_;exact Tri.ret ⟨.inr rfl, K8 rfl n9 ((by rw [hfin]; exact ToPu.imp (by unfold endZ p7; repeat constructor))) b6 ((by rw [hfin]; exact VImp.refl _))⟩
  ·intro h1
   have h1' : ¬ (fuel < 0 ∨ 2000 < fuel) := by simp at h1; omega
   obtain ⟨fl, hfl⟩ : ∃ fl : Nat, fuel = fl := ⟨fuel.toNat, by omega⟩
   subst hfl
   have hran := cc5 (G := G) a b ts k3 (by omega) (fun x hx => (D8 (k2 x hx)).1) (fun x hx => (D8 (k2 x hx)).2) t k5 (by omega) fl (by omega)
   have hinv := aG8 (ts := ts) (fun x hx => (D8 (k2 x hx)).1) fl 0 t k5 (by omega)
   have hrun : E7 ts t fl = if (D4 ts fl 0 t).2 = 0 then (if (D4 ts fl 0 t).1.kind ≠ 0 ∧ (D4 ts fl 0 t).1.kind ≠ 9 then ((D4 ts fl 0 t).1, 0) else if p9 (D4 ts fl 0 t).1.term 60 8 = 0 then ((D4 ts fl 0 t).1, 0) else (endZ, 11)) else (endZ, (D4 ts fl 0 t).2) := by simp only [E7, if_pos h0', if_neg h1', Int.toNat_natCast]
   generalize D4 ts fl 0 t = res at hran hinv hrun
   obtain ⟨⟨ek, es, et, er, en⟩, err⟩ := res
   simp only at hinv hrun
   refine Tri.skip ?_;refine Y43 ?_;refine yM ?_;refine Dq hran ?_;refine Y58 ?_;refine a8 SS 9 ?_;refine Y73 ?_;refine a6 [9] ?_;refine Y77 ?_;refine Y46 ?_;refine Cq ?_ ?_
   ·intro h2
    have h2' : ¬ err = 0 := by simpa using h2
    rw [if_neg h2'] at hrun
    refine yR ?_;refine yT ?_;refine yM ?_;refine yS ?_;refine Y2 ?_;exact Tri.ret ⟨.inr rfl, K8 rfl n9 ((by rw [hrun]; exact ToPu.imp (by unfold endZ p7; repeat constructor))) b6 ((by rw [hrun]; exact VImp.refl _))⟩
   ·intro h2
    have h2' : err = 0 := by simpa using h2
    rw [if_pos h2'] at hrun
    refine Y78 ?_;refine Y21 ?_;refine Y2 ?_;refine Cq ?_ ?_
    ·intro h3
     have h3' : ek ≠ 0 ∧ ek ≠ 9 := by simpa using h3
     rw [if_pos h3'] at hrun
     refine Y5 ?_;refine yS ?_;refine Y62 ?_;exact Tri.ret ⟨.inr rfl, K8 rfl n9 ((by rw [hrun]; exact VImp.refl _)) b6 ((by rw [hrun]; exact VImp.refl _))⟩
    ·intro h3
     have h3' : ¬ (ek ≠ 0 ∧ ek ≠ 9) := by simpa using h3
     rw [if_neg h3'] at hrun
     refine Y14 ?_;refine Dq (bL2 et (by omega)) ?_;refine yQ ?_;refine Y2 ?_;refine Cq ?_ ?_
     ·intro h4
      have h4' : ¬ p9 et 60 8 = 0 := by simpa using h4
      rw [if_neg h4'] at hrun
      refine yR ?_;refine yT ?_;refine yS ?_;refine Y62 ?_;exact Tri.ret ⟨.inr rfl, K8 rfl n9 ((by rw [hrun]; exact ToPu.imp (by unfold endZ p7; repeat constructor))) b6 ((by rw [hrun]; exact VImp.refl _))⟩
     ·intro h4
      have h4' : p9 et 60 8 = 0 := by simpa using h4
      rw [if_pos h4'] at hrun
      refine Tri.skip ?_;refine Y14 ?_;refine Dq ((bT7 et (by omega)).at (aw2 _)) ?_;refine yF ?_;refine Y17 ?_;refine Y5 ?_;refine yS ?_;refine Y62 ?_;exact Tri.ret ⟨.inr rfl, K8 rfl n9 ((by rw [hrun]; exact VImp.refl _)) b6 ((by rw [hrun]; exact VImp.refl _))⟩
end
section
variable {G : List (Nat × TypeId × Pu)}
def D3 (ts : List KT) (t : Tm) : Int × List Nat × Int :=
 if i9 ts t = 0 then (if P2 t then (0, [], 0) else (D6 ts t (d9 t), d9 t, 0)) else (0, [], i9 ts t)
abbrev bT9 (x : Int × List Nat × Int) : PV := .tup [iv .i64 x.1, .pu (.sl 0 3 (F5 x.2.1)), iv .i64 x.2.2]
theorem aY3 (a b : Pu) (ts : List KT) (t : Tm) (hts : ∀ x ∈ ts, a5 x.2 < 2^40) (hN : a5 t < 2^40) : FCall Tryz.prog G 18 [.pu (wdP a b ts), .pu (tmc 0 t)] (bT9 (D3 ts t)) := by
 refine Fq 25 Tryz.func18 ?_;intro w0 M ρ0 D0
 refine Tri.fact (i := 0) rfl (fun D w x h => bd9 h) (fun hwd => ?_);refine Y65 ?_;refine yB ?_;refine yB ?_;refine yB ?_;refine a6 [2, 3] ?_;refine Y43 ?_;refine Dq (Z3 a b ts t hts hN) ?_;refine Y12 ?_;refine Y15 ?_;refine Y0 ?_;refine Cq ?_ ?_
 ·intro h0
  have h0' : ¬ i9 ts t = 0 := by simpa using h0
  have hfin : D3 ts t = (0, [], i9 ts t) := by simp only [D3, if_neg h0']
  refine Y1 ?_;refine yB ?_;refine yB ?_;refine Y2 ?_;exact Tri.ret ⟨.inr rfl, bX4 rfl b6 ((by rw [hfin]; exact VImp.refl _)) b6 ((by rw [hfin]; exact ToPu.imp (by repeat constructor))) b6 ((by rw [hfin]; exact VImp.refl _))⟩
 ·intro h0
  have h0' : i9 ts t = 0 := by simpa using h0
  obtain ⟨k1, k2, k3, k4⟩ := U3 h0'
  obtain ⟨k5, k6⟩ := D8 k4
  refine Tri.skip ?_;refine Y5 ?_;refine Dq (aF1 _ t (Nat.le_refl _) (by omega)) ?_;refine Y0 ?_;refine Cq ?_ ?_
  ·intro h1
   have hfin : D3 ts t = (0, [], 0) := by simp only [D3, if_pos h0', h1, if_true]
   refine Y6 ?_;refine yB ?_;refine Y62 ?_;exact Tri.ret ⟨.inr rfl, bX4 rfl b6 ((by rw [hfin]; exact VImp.refl _)) b6 ((by rw [hfin]; exact ToPu.imp (by repeat constructor))) b6 ((by rw [hfin]; exact VImp.refl _))⟩
  ·intro h1
   have hfin : D3 ts t = (D6 ts t (d9 t), d9 t, 0) := by simp only [D3, if_pos h0', h1, Bool.false_eq_true, if_false]
   have hok := H5 k5
   have hN' : a5 t < 2^28 := by omega
   have hwsh := F4 (p := d9 t) k5
   have hkc := bC7 (G := G) a b ts hwd t (d9 t) hok hN' (by generalize b8 t (d9 t) = w at hwsh; obtain ⟨k, n, r, ks, cs⟩ := w; exact hwsh.1) (by generalize b8 t (d9 t) = w at hwsh; obtain ⟨k, n, r, ks, cs⟩ := w; exact hwsh.2.1)
   refine Tri.skip ?_;refine Y5 ?_;refine Dq (bj4 t k5 (by omega)) ?_;refine a8 SS 8 ?_;refine yS ?_;refine a6 [8] ?_;refine Y5 ?_;refine a9 (aP1 a b ts k3 (by omega)) ?_;refine yL ?_;refine b5 (p6 (fun _ => hkc)) ?_;refine Y8 ?_;refine yA ?_;refine yA ?_;refine yB ?_;refine G6 [822, 820, 823, 831, 832, 833, 834, 835, 836] ?_;refine tQ ?_;exact Tri.ret ⟨.inr rfl, bX4 rfl b6 ((by rw [hfin]; exact VImp.refl _)) b6 ((by rw [hfin]; exact VImp.refl _)) b6 ((by rw [hfin]; exact VImp.refl _))⟩
end
section
variable {G : List (Nat × TypeId × Pu)}
def s7 {α : Type} (φ : α → α → Bool) : List α → List α → Bool
 | [], [] => true
 | a :: l, b :: m => φ a b && s7 φ l m
 | _, _ => false
theorem S9 {α : Type} {φ : α → α → Bool} : ∀ {l m : List α}, l.length ≠ m.length → s7 φ l m = false
 | [], [], h => by simp at h
 | [], _ :: _, _ => rfl
 | _ :: _, [], _ => rfl
 | a :: l, b :: m, h => by simp only [s7, S9 (l := l) (m := m) (by simpa using h), Bool.and_false]
theorem N2 {α : Type} {φ : α → α → Bool} : ∀ {l m : List α} {i : Nat} (h : i < l.length) (h2 : i < m.length), s7 φ (l.take (i + 1)) (m.take (i + 1)) = (s7 φ (l.take i) (m.take i) && φ l[i] m[i])
 | a :: l, b :: m, 0, _, _ => by simp [s7]
 | a :: l, b :: m, i + 1, h, h2 => by
  have h' : i < l.length := by simpa using h
  have h2' : i < m.length := by simpa using h2
  have := N2 (φ := φ) h' h2'
  simp only [List.take_succ_cons, s7, List.getElem_cons_succ, this, Bool.and_assoc]
theorem N3 {α : Type} {φ : α → α → Bool} : ∀ {l m : List α} {i : Nat}, s7 φ (l.take i) (m.take i) = false → s7 φ l m = false
 | [], [], i, h => by simp [s7] at h
 | [], _ :: _, i, h => rfl
 | _ :: _, [], i, h => rfl
 | a :: l, b :: m, 0, h => by simp [s7] at h
 | a :: l, b :: m, i + 1, h => by
  simp only [List.take_succ_cons, s7] at h ⊢
  cases hp : φ a b
  ·rfl
  ·rw [hp] at h
   simp only [Bool.true_and] at h ⊢
   exact N3 h
theorem aT8 (f : FuncId) (he : j8 Tryz.prog f = true) (φ : Pat → Pat → Bool) (l m : List Pat) (hl : l.length < 2^40) (hm : m.length < 2^40) (h : ∀ i (h1 : i < l.length) (h2 : i < m.length), FCall Tryz.prog G f [.pu (A6 0 l[i]), .pu (A6 0 m[i])] (bv (φ l[i] m[i]))) :
  FCall Tryz.prog G 166 [.pu (.sl 0 104 (v6 0 l)), .pu (.sl 0 104 (v6 0 m)), fV f] (bv (s7 φ l m)) := by
 refine Fq 32 Tryz.func166 ?_;intro w0 M ρ0 D0
 refine Y48 ?_;refine yC ?_;refine yM ?_;refine yC ?_;refine Y53 ?_;refine Cq ?_ ?_
 ·intro h0
  have hf : s7 φ l m = false := S9 (by rw [j7, j7] at h0; simp at h0; omega)
  refine Y9 ?_;refine Rq ?_;exact l7 hf.symm
 ·intro h0
  have hlm : l.length = m.length := by rw [j7, j7] at h0; simp at h0; omega
  refine Y72 ?_;refine Y38 ?_;refine Tri.block (Tri.loopW (σ := {i : Nat // s7 φ (l.take i) (m.take i) = true}) (fun i => ⟨[(1, .pu (.sl 0 104 (v6 0 m))), (2, fV f), (15, .pu (.sl 0 104 (v6 0 l))), (16, iv .i64 (v6 0 l).length), (17, iv .i64 i.1)], []⟩) (fun i => l.length - i.1) ⟨0, by simp [s7]⟩ ?_ ?_ (fun i => ?_))
  ·exact zW
  ·exact zW
  refine Y30 ?_;refine Cq ?_ ?_
  ·intro h1
   have hi : i.1 < l.length := by rw [j7] at h1; simpa using h1
   have hi2 : i.1 < m.length := by omega
   have htk := N2 (φ := φ) hi hi2
   rw [i.2, Bool.true_and] at htk
   refine Y57 ?_;refine b5 (j6 SS (h0 := by omega) (hp := L6 hi)) ?_;refine yL ?_;refine a8 SS 8 ?_;refine yA ?_;refine yS ?_;refine a6 [8] ?_;refine Y32 ?_;refine b5 (j6 SS (h0 := by omega) (hp := L6 hi2)) ?_;refine yL ?_;refine a8 SS 9 ?_;refine yS ?_;refine a6 [9] ?_;refine Y40 ?_;refine yL ?_;refine b5 (p6 (fun _ => h i.1 hi hi2) (he := he)) ?_;refine yQ ?_;refine Y0 ?_;refine Cq ?_ ?_
   ·intro h2
    have hf : s7 φ l m = false := N3 (i := i.1 + 1) (by rw [htk]; simpa using h2)
    refine Y9 ?_;refine Rq ?_;exact l7 hf.symm
   ·intro h2
    have hnext : s7 φ (l.take (i.1 + 1)) (m.take (i.1 + 1)) = true := by rw [htk]; simpa using h2
    refine Y52 ?_
    refine ⟨⟨i.1 + 1, hnext⟩, by show l.length - (i.1 + 1) < l.length - i.1; omega, k7 ?_ ?_⟩
    ·exact zE
    ·exact zH
  ·intro h1
   have hf : s7 φ l m = true := by
    have := i.2
    rwa [List.take_of_length_le (by rw [j7] at h1; simp at h1; omega), List.take_of_length_le (by rw [j7] at h1; simp at h1; omega)] at this
   refine Tri.exit ?_;refine Y9 ?_;refine Rq ?_;exact l7 hf.symm
theorem bj7 (f : FuncId) (he : j8 Tryz.prog f = true) (φ : Tm → Tm → Bool) (l m : List Tm) (hl : l.length < 2^40) (hm : m.length < 2^40) (h : ∀ i (h1 : i < l.length) (h2 : i < m.length), FCall Tryz.prog G f [.pu (tmc 0 l[i]), .pu (tmc 0 m[i])] (bv (φ l[i] m[i]))) :
  FCall Tryz.prog G 118 [.pu (.sl 0 32 (l5 0 l)), .pu (.sl 0 32 (l5 0 m)), fV f] (bv (s7 φ l m)) := by
 refine Fq 32 Tryz.func118 ?_;intro w0 M ρ0 D0
 refine Y48 ?_;refine yC ?_;refine yM ?_;refine yC ?_;refine Y53 ?_;refine Cq ?_ ?_
 ·intro h0
  have hf : s7 φ l m = false := S9 (by rw [a7, a7] at h0; simp at h0; omega)
  refine Y9 ?_;refine Rq ?_;exact l7 hf.symm
 ·intro h0
  have hlm : l.length = m.length := by rw [a7, a7] at h0; simp at h0; omega
  refine Y72 ?_;refine Y38 ?_;refine Tri.block (Tri.loopW (σ := {i : Nat // s7 φ (l.take i) (m.take i) = true}) (fun i => ⟨[(1, .pu (.sl 0 32 (l5 0 m))), (2, fV f), (15, .pu (.sl 0 32 (l5 0 l))), (16, iv .i64 (l5 0 l).length), (17, iv .i64 i.1)], []⟩) (fun i => l.length - i.1) ⟨0, by simp [s7]⟩ ?_ ?_ (fun i => ?_))
  ·exact zW
  ·exact zW
  refine Y30 ?_;refine Cq ?_ ?_
  ·intro h1
   have hi : i.1 < l.length := by rw [a7] at h1; simpa using h1
   have hi2 : i.1 < m.length := by omega
   have htk := N2 (φ := φ) hi hi2
   rw [i.2, Bool.true_and] at htk
   refine Y57 ?_;refine b5 (j6 SS (h0 := by omega) (hp := B6 hi)) ?_;refine yL ?_;refine a8 SS 8 ?_;refine yA ?_;refine yS ?_;refine a6 [8] ?_;refine Y32 ?_;refine b5 (j6 SS (h0 := by omega) (hp := B6 hi2)) ?_;refine yL ?_;refine a8 SS 9 ?_;refine yS ?_;refine a6 [9] ?_;refine Y40 ?_;refine yL ?_;refine b5 (p6 (fun _ => h i.1 hi hi2) (he := he)) ?_;refine yQ ?_;refine Y0 ?_;refine Cq ?_ ?_
   ·intro h2
    have hf : s7 φ l m = false := N3 (i := i.1 + 1) (by rw [htk]; simpa using h2)
    refine Y9 ?_;refine Rq ?_;exact l7 hf.symm
   ·intro h2
    have hnext : s7 φ (l.take (i.1 + 1)) (m.take (i.1 + 1)) = true := by rw [htk]; simpa using h2
    refine Y52 ?_
    refine ⟨⟨i.1 + 1, hnext⟩, by show l.length - (i.1 + 1) < l.length - i.1; omega, k7 ?_ ?_⟩
    ·exact zE
    ·exact zH
  ·intro h1
   have hf : s7 φ l m = true := by
    have := i.2
    rwa [List.take_of_length_le (by rw [a7] at h1; simp at h1; omega), List.take_of_length_le (by rw [a7] at h1; simp at h1; omega)] at this
   refine Tri.exit ?_;refine Y9 ?_;refine Rq ?_;exact l7 hf.symm
theorem bj8 (f : FuncId) (he : j8 Tryz.prog f = true) (φ : Cs → Cs → Bool) (l m : List Cs) (hl : l.length < 2^40) (hm : m.length < 2^40) (h : ∀ i (h1 : i < l.length) (h2 : i < m.length), FCall Tryz.prog G f [.pu (M6 0 l[i]), .pu (M6 0 m[i])] (bv (φ l[i] m[i]))) :
  FCall Tryz.prog G 97 [.pu (.sl 0 106 (C7 0 l)), .pu (.sl 0 106 (C7 0 m)), fV f] (bv (s7 φ l m)) := by
 refine Fq 32 Tryz.func97 ?_;intro w0 M ρ0 D0
 refine Y48 ?_;refine yC ?_;refine yM ?_;refine yC ?_;refine Y53 ?_;refine Cq ?_ ?_
 ·intro h0
  have hf : s7 φ l m = false := S9 (by rw [o5, o5] at h0; simp at h0; omega)
  refine Y9 ?_;refine Rq ?_;exact l7 hf.symm
 ·intro h0
  have hlm : l.length = m.length := by rw [o5, o5] at h0; simp at h0; omega
  refine Y72 ?_;refine Y38 ?_;refine Tri.block (Tri.loopW (σ := {i : Nat // s7 φ (l.take i) (m.take i) = true}) (fun i => ⟨[(1, .pu (.sl 0 106 (C7 0 m))), (2, fV f), (15, .pu (.sl 0 106 (C7 0 l))), (16, iv .i64 (C7 0 l).length), (17, iv .i64 i.1)], []⟩) (fun i => l.length - i.1) ⟨0, by simp [s7]⟩ ?_ ?_ (fun i => ?_))
  ·exact zW
  ·exact zW
  refine Y30 ?_;refine Cq ?_ ?_
  ·intro h1
   have hi : i.1 < l.length := by rw [o5] at h1; simpa using h1
   have hi2 : i.1 < m.length := by omega
   have htk := N2 (φ := φ) hi hi2
   rw [i.2, Bool.true_and] at htk
   refine Y57 ?_;refine b5 (j6 SS (h0 := by omega) (hp := ad7 hi)) ?_;refine yL ?_;refine a8 SS 8 ?_;refine yA ?_;refine yS ?_;refine a6 [8] ?_;refine Y32 ?_;refine b5 (j6 SS (h0 := by omega) (hp := ad7 hi2)) ?_;refine yL ?_;refine a8 SS 9 ?_;refine yS ?_;refine a6 [9] ?_;refine Y40 ?_;refine yL ?_;refine b5 (p6 (fun _ => h i.1 hi hi2) (he := he)) ?_;refine yQ ?_;refine Y0 ?_;refine Cq ?_ ?_
   ·intro h2
    have hf : s7 φ l m = false := N3 (i := i.1 + 1) (by rw [htk]; simpa using h2)
    refine Y9 ?_;refine Rq ?_;exact l7 hf.symm
   ·intro h2
    have hnext : s7 φ (l.take (i.1 + 1)) (m.take (i.1 + 1)) = true := by rw [htk]; simpa using h2
    refine Y52 ?_
    refine ⟨⟨i.1 + 1, hnext⟩, by show l.length - (i.1 + 1) < l.length - i.1; omega, k7 ?_ ?_⟩
    ·exact zE
    ·exact zH
  ·intro h1
   have hf : s7 φ l m = true := by
    have := i.2
    rwa [List.take_of_length_le (by rw [o5] at h1; simp at h1; omega), List.take_of_length_le (by rw [o5] at h1; simp at h1; omega)] at this
   refine Tri.exit ?_;refine Y9 ?_;refine Rq ?_;exact l7 hf.symm
mutual
def Z4 : Pat → Pat → Bool
 | .mk k n r ks, .mk k' n' r' ks' => (k == k' && n == n' && r == r') && al0 ks ks'
def al0 : List Pat → List Pat → Bool
 | [], [] => true
 | p :: ps, q :: qs => Z4 p q && al0 ps qs
 | _, _ => false
end
theorem ak9 : ∀ l m, al0 l m = s7 Z4 l m
 | [], [] => rfl
 | [], _ :: _ => rfl
 | _ :: _, [] => rfl
 | p :: ps, q :: qs => by simp only [al0, s7, ak9 ps qs]
mutual
def O0 : Tm → Tm → Bool
 | .mk k n r ks cs, .mk k' n' r' ks' cs' => (k == k' && n == n' && r == r') && N9 ks ks' && Q8 cs cs'
def N9 : List Tm → List Tm → Bool
 | [], [] => true
 | p :: ps, q :: qs => O0 p q && N9 ps qs
 | _, _ => false
def Q8 : List Cs → List Cs → Bool
 | [], [] => true
 | p :: ps, q :: qs => W6 p q && Q8 ps qs
 | _, _ => false
def W6 : Cs → Cs → Bool
 | .mk p t, .mk q u => Z4 p q && O0 t u
end
theorem ak8 : ∀ l m, N9 l m = s7 O0 l m
 | [], [] => by simp [N9, s7]
 | [], _ :: _ => by simp [N9, s7]
 | _ :: _, [] => by simp [N9, s7]
 | p :: ps, q :: qs => by simp only [N9, s7, ak8 ps qs]
theorem al1 : ∀ l m, Q8 l m = s7 W6 l m
 | [], [] => by simp [Q8, s7]
 | [], _ :: _ => by simp [Q8, s7]
 | _ :: _, [] => by simp [Q8, s7]
 | p :: ps, q :: qs => by simp only [Q8, s7, al1 ps qs]
theorem bK6 : ∀ (N : Nat) (p q : Pat), k9 p ≤ N → N < 2^40 → k9 q < 2^40 → FCall Tryz.prog G 99 [.pu (A6 0 p), .pu (A6 0 q)] (bv (Z4 p q)) := by
 intro N
 induction N with
 | zero => intro p q h; cases p; simp [k9] at h
 | succ N ih =>
 intro p q hp hN hq
 obtain ⟨k, n, r, ks⟩ := p
 obtain ⟨k', n', r', ks'⟩ := q
 simp only [k9] at hp hq
 have hlen := o4 ks
 have hlen' := o4 ks'
 refine Fq 31 Tryz.func99 ?_;intro w0 M ρ0 D0
 refine Tri.fact (i := 0) rfl (fun D w x h => af8 h) (fun hr => ?_);refine Tri.fact (i := 1) rfl (fun D w x h => af8 h) (fun hr' => ?_)
 simp only [wfP] at hr hr'
 refine Y65 ?_;refine yB ?_;refine a6 [2, 3] ?_;refine Y14 ?_;refine Y3 ?_;refine yI ?_;refine Y42 ?_;refine Y21 ?_;refine Y42 ?_;refine q8 zG (z7 SS (h := x5 (hr.1.trans hr'.1.symm))) ?_;refine yN ?_;refine Y42 ?_;refine q8 zG (o6 (fun _ => aT8 99 (by kernel_rfl) Z4 ks ks' (by omega) (by omega) (fun i h1 h2 => ih _ _ (by have := x6 h1; omega) (by omega) (by have := x6 h2; omega)))) ?_;refine yN ?_;refine Y2 ?_;refine Rq ?_;exact l7 (by simp only [Z4, ak9])
theorem bK7 (c d : Cs) (hp : u7 c < 2^40) (hq : u7 d < 2^40) (h : FCall Tryz.prog G 23 [.pu (tmc 0 (csT c)), .pu (tmc 0 (csT d))] (bv (O0 (csT c) (csT d)))) : FCall Tryz.prog G 98 [.pu (M6 0 c), .pu (M6 0 d)] (bv (W6 c d)) := by
 obtain ⟨p, t⟩ := c
 obtain ⟨q, u⟩ := d
 simp only [csT, u7] at h hp hq
 refine Fq 17 Tryz.func98 ?_;intro w0 M ρ0 D0
 refine Y65 ?_;refine yB ?_;refine a6 [2, 3] ?_;refine Y14 ?_;refine Y3 ?_;refine Dq (bK6 _ p q (Nat.le_refl _) (by omega) (by omega)) ?_;refine Y42 ?_;refine q8 zG (o6 (fun _ => h)) ?_;refine yN ?_;refine Y2 ?_;refine Rq ?_;exact l7 (by simp only [W6])
theorem by2 (l m : List Tm) (hl : l.length < 2^40) (hm : m.length < 2^40) (h : ∀ i (h1 : i < l.length) (h2 : i < m.length), FCall Tryz.prog G 23 [.pu (tmc 0 l[i]), .pu (tmc 0 m[i])] (bv (O0 l[i] m[i]))) : FCall Tryz.prog G 50 [.pu (.sl 0 32 (l5 0 l)), .pu (.sl 0 32 (l5 0 m))] (bv (N9 l m)) := by
 refine Fq 8 Tryz.func50 ?_;intro w0 M ρ0 D0
 refine Y20 ?_;refine Y32 ?_;refine Dq (bj7 23 (by kernel_rfl) O0 l m hl hm h) ?_;refine Y2 ?_;refine Rq ?_;exact l7 (by rw [ak8])
theorem bK5 : ∀ (N : Nat) (t u : Tm), a5 t ≤ N → N < 2^40 → a5 u < 2^40 → FCall Tryz.prog G 23 [.pu (tmc 0 t), .pu (tmc 0 u)] (bv (O0 t u)) := by
 intro N
 induction N with
 | zero => intro t u h; have := r9 t; omega
 | succ N ih =>
 intro t u hp hN hq
 obtain ⟨k, n, r, ks, cs⟩ := t
 obtain ⟨k', n', r', ks', cs'⟩ := u
 simp only [a5] at hp hq
 have hlen := l8 ks
 have hlen' := l8 ks'
 have hlc := s6 cs
 have hlc' := s6 cs'
 refine Fq 38 Tryz.func23 ?_;intro w0 M ρ0 D0
 refine Tri.fact (i := 0) rfl (fun D w x h => an3 h) (fun hr => ?_);refine Tri.fact (i := 1) rfl (fun D w x h => an3 h) (fun hr' => ?_)
 simp only [wfT] at hr hr'
 have hcs : ∀ i (h1 : i < cs.length) (h2 : i < cs'.length), FCall Tryz.prog G 98 [.pu (M6 0 cs[i]), .pu (M6 0 cs'[i])] (bv (W6 cs[i] cs'[i])) := fun i h1 h2 => by
  have s1 := L1 h1
  have s2 := L1 h2
  generalize cs[i] = c at s1 ⊢
  generalize cs'[i] = d at s2 ⊢
  refine bK7 c d (by omega) (by omega) ?_
  obtain ⟨p, t⟩ := c
  obtain ⟨q, u⟩ := d
  simp only [u7, csT] at s1 s2 ⊢
  exact ih t u (by omega) (by omega) (by omega)
 refine Y65 ?_;refine yB ?_;refine a6 [2, 3] ?_;refine Y14 ?_;refine Y3 ?_;refine yI ?_;refine Y42 ?_;refine Y21 ?_;refine Y42 ?_;refine q8 zG (z7 SS (h := x5 (hr.1.trans hr'.1.symm))) ?_;refine yN ?_;refine Y42 ?_;refine q8 zG (o6 (fun _ => by2 ks ks' (by omega) (by omega) (fun i h1 h2 => ih _ _ (by have := K7 h1; omega) (by omega) (by have := K7 h2; omega)))) ?_;refine yN ?_;refine Y42 ?_;refine q8 zG (o6 (fun _ => bj8 98 (by kernel_rfl) W6 cs cs' (by omega) (by omega) hcs)) ?_;refine yN ?_;refine Y2 ?_
 refine Rq ?_;exact l7 (by simp only [O0, al1])
mutual
theorem at2 : ∀ p : Pat, Z4 p p = true
 | .mk k n r ks => by simp [Z4, an6 ks]
theorem an6 : ∀ ps : List Pat, al0 ps ps = true
 | [] => rfl
 | p :: ps => by simp [al0, at2 p, an6 ps]
end
mutual
theorem U5 : ∀ t : Tm, O0 t t = true
 | .mk k n r ks cs => by simp [O0, an5 ks, an7 cs]
theorem an5 : ∀ ts : List Tm, N9 ts ts = true
 | [] => by simp [N9]
 | t :: ts => by simp [N9, U5 t, an5 ts]
theorem an7 : ∀ cs : List Cs, Q8 cs cs = true
 | [] => by simp [Q8]
 | c :: cs => by simp [Q8, aY9 c, an7 cs]
theorem aY9 : ∀ c : Cs, W6 c c = true
 | .mk p t => by simp [W6, at2 p, U5 t]
end
end
section
def b7 (n : Int) : List Int := n :: List.replicate 31 0
def gL : List (Nat × TypeId × Pu) := [(0, 28, f5 (b7 11)), (1, 28, f5 (b7 3)), (2, 28, f5 (b7 13)), (3, 28, f5 (b7 12)), (4, 28, f5 (b7 21)), (5, 28, f5 (b7 2)), (6, 28, f5 (b7 4)), (7, 28, f5 (b7 24)), (8, 28, f5 (b7 1)), (9, 28, f5 (b7 22)), (10, 28, f5 (b7 23))]
def gA : List (Nat × TypeId × Pu) := [(0, 28, f5 (b7 11)), (4, 28, f5 (b7 21))]
section
variable {G : List (Nat × TypeId × Pu)}
theorem Ha_c (r : List Int) (ks : List Tm) : FCall Tryz.prog G 37 [.pu (f5 r), .pu (.sl 0 32 (l5 0 ks))] (.pu (tmc 0 (.mk 12 0 r ks []))) := by
 refine Fq 8 Tryz.func37 ?_;intro w0 M ρ0 D0
 refine Y39 ?_;refine a8 SS 4 ?_;refine a6 [2, 4] ?_;refine Y5 ?_;refine yM ?_;refine Y49 ?_;refine Rc ?_;exact ToPu.imp (by repeat constructor)
theorem an0 (r : List Int) (n : Int) (ks : List Pat) : FCall Tryz.prog G 67 [.pu (f5 r), iv .i64 n, .pu (.sl 0 104 (v6 0 ks))] (.pu (A6 0 (.mk 3 n r ks))) := by
 refine Fq 11 Tryz.func67 ?_;intro w0 M ρ0 D0
 refine Y45 ?_;refine a8 SS 6 ?_;refine a6 [3, 6] ?_;refine Y5 ?_;refine Y19 ?_;refine Y49 ?_;refine Rc ?_;exact ToPu.imp (by repeat constructor)
def bL1 : Pu := .agg 56 [.sl 0 28 [], .leaf (.bool false), .leaf (.int .i64 0)]
def az9 (k n : Int) (r : List Int) (ks : List Pu) : Pu := .agg 58 [.leaf (.int .i64 k), .leaf (.int .i64 n), f5 r, .sl 0 58 ks, bL1]
instance (k n : Int) (r : List Int) (ks : List Pu) : TyV Tryz.prog 58 (.pu (az9 k n r ks)) := inferInstanceAs (TyV Tryz.prog 58 (.pu (.agg _ _)))
theorem V_c (n : Int) : FCall Tryz.prog G 108 [iv .i64 n] (.pu (az9 1 n Z32 [])) := by
 refine Fq 5 Tryz.func108 ?_;intro w0 M ρ0 D0
 refine yR ?_;refine a8 SS 2 ?_;refine a6 [2] ?_;refine Y1 ?_;refine Y49 ?_;refine Rc ?_;exact ToPu.imp (by repeat constructor)
theorem N_c : FCall Tryz.prog G 29 [] (.pu (az9 2 0 Z32 [])) := by
 refine Fq 2 Tryz.func29 ?_;intro w0 M ρ0 D0
 refine yR ?_;refine a8 SS 0 ?_;refine a6 [0] ?_;refine yR ?_;refine Y49 ?_;refine Rc ?_;exact ToPu.imp (by repeat constructor)
theorem D_c (r : List Int) (ks : List Pu) : FCall Tryz.prog G 109 [.pu (f5 r), .pu (.sl 0 58 ks)] (.pu (az9 4 0 r ks)) := by
 refine Fq 8 Tryz.func109 ?_;intro w0 M ρ0 D0
 refine Y39 ?_;refine a8 SS 4 ?_;refine a6 [2, 4] ?_;refine Y5 ?_;refine yM ?_;refine Y49 ?_;refine Rc ?_;exact ToPu.imp (by repeat constructor)
end
def vaM (n : Int) : Tm := .mk 1 n Z32 [] []
def nuM (n : Int) : Tm := .mk 2 n Z32 [] []
def laM (t : Tm) : Tm := .mk 3 0 Z32 [t] []
def apM (s t : Tm) : Tm := .mk 4 0 Z32 [s, t] []
def deM (r : List Int) : Tm := .mk 6 0 r [] []
def prM (n : Int) (s t : Tm) : Tm := .mk 10 n Z32 [s, t] []
def maM (t : Tm) (cs : List Cs) : Tm := .mk 9 0 Z32 [t] cs
def t8 : Pat := .mk 1 0 Z32 []
def pnM (n : Int) : Pat := .mk 2 n Z32 []
def pcM (r : List Int) (n : Int) (ks : List Pat) : Pat := .mk 3 n r ks
def worldT : List KT := [(b7 21, laM (prM 1 (vaM 0) (nuM 1))), (b7 22, laM (laM (prM 1 (vaM 1) (vaM 0)))),
 (b7 23, laM (maM (vaM 0) [.mk (pcM (b7 2) 0 []) (nuM 0), .mk (pcM (b7 2) 1 [t8, t8]) (prM 1 (vaM 1) (apM (deM (b7 23)) (vaM 0)))])),
 (b7 24, laM (maM (vaM 0) [.mk (pnM 0) (nuM 0), .mk t8 (apM (deM (b7 24)) (prM 2 (vaM 0) (nuM 1)))]))]
def kdP (r : List Int) (u : Array UInt8) (n : Int) (cons : List (List Pu)) : Pu := .agg 130 [f5 r, .agg 128 [.leaf (.string ⟨u⟩), .leaf (.int .i64 n), .sl 0 53 (cons.map fun l => .sl 0 58 l)]]
def kaP (r : List Int) (u : Array UInt8) (ops : List Pu) : Pu := .agg 136 [f5 r, .agg 134 [.leaf (.string ⟨u⟩), .sl 0 167 ops]]
def vT (n : Int) : Pu := az9 1 n Z32 []
def nT : Pu := az9 2 0 Z32 []
def opT (f t : Pu) : Pu := .agg 167 [f, t]
def ar6 : Pu := .sl 0 130 [kdP (b7 1) #[] 0 [[], []], kdP (b7 2) #[] 1 [[], [vT 0, az9 4 0 (b7 2) [vT 0]]], kdP (b7 3) #[] 2 [[vT 0, vT 1]], kdP (b7 4) #[111, 112, 116] 1 [[], [vT 0]]]
def ar5 : Pu := .sl 0 136 [kaP (b7 11) #[] [opT nT nT, opT nT nT], kaP (b7 12) #[] [opT nT (az9 4 0 (b7 1) [])], kaP (b7 13) #[97, 98, 111, 114, 116] [opT nT nT]]
set_option maxHeartbeats 4000000 in
theorem bS7 : FCall Tryz.prog gL 25 [] (.pu (wdP ar6 ar5 worldT)) := by
 refine Fq 113 Tryz.func25 ?_;intro w0 M ρ0 D0
 refine yR ?_;refine a8 SS 0 ?_;refine a6 [0] ?_;refine Y51 ?_;refine yZ ?_;refine yZ ?_;refine Y74 ?_;refine yP ?_;refine yG ?_;refine yZ ?_;refine Dq (V_c 0) ?_;refine yG ?_;refine Dq (V_c 0) ?_;refine yZ ?_;refine Dq (D_c (b7 2) [az9 1 0 Z32 []]) ?_;refine yZ ?_;refine Y74 ?_;refine yP ?_;refine yG ?_;refine Dq (V_c 0) ?_;refine Dq (V_c 1) ?_;refine yZ ?_;refine Y74 ?_;refine yP ?_;refine yG ?_;refine yZ ?_;refine Dq (V_c 0) ?_;refine yZ ?_;refine Y74 ?_;refine yP ?_;refine yZ ?_;refine yG ?_;refine Dq N_c ?_;refine Dq N_c ?_;refine yP ?_;refine Dq N_c ?_;refine Dq N_c ?_;refine yP ?_;refine Y74 ?_;refine yP ?_;refine yG ?_
 refine Dq N_c ?_;refine yG ?_;refine Dq (D_c (b7 1) []) ?_;refine yP ?_;refine Y74 ?_;refine yP ?_;refine yG ?_;refine Dq N_c ?_;refine Dq N_c ?_;refine yP ?_;refine Y74 ?_;refine yP ?_;refine yZ ?_;refine yG ?_;refine Dq (W3 0) ?_;refine Dq (X5 1) ?_;refine Dq (aA6 1 (vaM 0) (nuM 1)) ?_;refine Dq (aA7 (prM 1 (vaM 0) (nuM 1))) ?_;refine yP ?_;refine yG ?_;refine Dq (W3 1) ?_;refine Dq (W3 0) ?_;refine Dq (aA6 1 (vaM 1) (vaM 0)) ?_;refine Dq (aA7 (prM 1 (vaM 1) (vaM 0))) ?_;refine Dq (aA7 (laM (prM 1 (vaM 1) (vaM 0)))) ?_;refine yP ?_;refine yG ?_;refine Dq (W3 0) ?_
 refine yG ?_;refine Dq (an0 (b7 2) 0 []) ?_;refine Dq (X5 0) ?_;refine Dq (X6 (pcM (b7 2) 0 []) (nuM 0)) ?_;refine yG ?_;refine Dq Q7 ?_;refine Dq Q7 ?_;refine yZ ?_;refine Dq (an0 (b7 2) 1 [t8, t8]) ?_;refine Dq (W3 1) ?_;refine yG ?_;refine Dq (aK4 (b7 23)) ?_;refine Dq (W3 0) ?_;refine Dq (ae3 (deM (b7 23)) (vaM 0)) ?_;refine Dq (aA6 1 (vaM 1) (apM (deM (b7 23)) (vaM 0))) ?_;refine Dq (X6 (pcM (b7 2) 1 [t8, t8]) (prM 1 (vaM 1) (apM (deM (b7 23)) (vaM 0)))) ?_;refine yZ ?_
 refine Dq (aW3 (vaM 0) [.mk (pcM (b7 2) 0 []) (nuM 0), .mk (pcM (b7 2) 1 [t8, t8]) (prM 1 (vaM 1) (apM (deM (b7 23)) (vaM 0)))]) ?_;refine Dq (aA7 (maM (vaM 0) [.mk (pcM (b7 2) 0 []) (nuM 0), .mk (pcM (b7 2) 1 [t8, t8]) (prM 1 (vaM 1) (apM (deM (b7 23)) (vaM 0)))])) ?_;refine yP ?_;refine yG ?_;refine Dq (W3 0) ?_;refine Dq (bI6 0) ?_;refine Dq (X5 0) ?_;refine Dq (X6 (pnM 0) (nuM 0)) ?_;refine Dq Q7 ?_;refine yG ?_;refine Dq (aK4 (b7 24)) ?_;refine Dq (W3 0) ?_;refine Dq (X5 1) ?_;refine Dq (aA6 2 (vaM 0) (nuM 1)) ?_;refine Dq (ae3 (deM (b7 24)) (prM 2 (vaM 0) (nuM 1))) ?_
 refine Dq (X6 t8 (apM (deM (b7 24)) (prM 2 (vaM 0) (nuM 1)))) ?_;refine yZ ?_;refine Dq (aW3 (vaM 0) [.mk (pnM 0) (nuM 0), .mk t8 (apM (deM (b7 24)) (prM 2 (vaM 0) (nuM 1)))]) ?_;refine Dq (aA7 (maM (vaM 0) [.mk (pnM 0) (nuM 0), .mk t8 (apM (deM (b7 24)) (prM 2 (vaM 0) (nuM 1)))])) ?_;refine yP ?_;refine Y74 ?_;refine Y29 ?_;refine Rc ?_;exact ToPu.imp (by repeat constructor)
end
theorem bF4 {G : List (Nat × TypeId × Pu)} (l m : List Nat) (hl : l.length < 2^40) (hm : m.length < 2^40) : FCall Tryz.prog G 20 [.pu (.sl 0 3 (F5 l)), .pu (.sl 0 3 (F5 m))] (bv (s7 (fun a b : Nat => (a : Int) == (b : Int)) l m)) := by
 refine Fq 26 Tryz.func20 ?_;intro w0 M ρ0 D0
 refine Y48 ?_;refine yC ?_;refine yM ?_;refine yC ?_;refine Y53 ?_;refine Cq ?_ ?_
 ·intro h0
  have hf : s7 (fun a b : Nat => (a : Int) == (b : Int)) l m = false := S9 (by rw [B8, B8] at h0; simp at h0; omega)
  refine Y9 ?_;refine Rq ?_;exact l7 hf.symm
 ·intro h0
  have hlm : l.length = m.length := by rw [B8, B8] at h0; simp at h0; omega
  refine Y72 ?_;refine Y38 ?_;refine Tri.block (Tri.loopW (σ := {i : Nat // s7 (fun a b : Nat => (a : Int) == (b : Int)) (l.take i) (m.take i) = true}) (fun i => ⟨[(0, .pu (.sl 0 3 (F5 l))), (1, .pu (.sl 0 3 (F5 m))), (12, iv .i64 (F5 l).length), (13, iv .i64 i.1)], []⟩) (fun i => l.length - i.1) ⟨0, by simp [s7]⟩ ?_ ?_ (fun i => ?_))
  ·exact zW
  ·exact zW
  refine Y30 ?_;refine Cq ?_ ?_
  ·intro h1
   have hi : i.1 < l.length := by rw [B8] at h1; simpa using h1
   have hi2 : i.1 < m.length := by omega
   have htk := N2 (φ := fun a b : Nat => (a : Int) == (b : Int)) hi hi2
   rw [i.2, Bool.true_and] at htk
   refine Y57 ?_;refine Y12 ?_;refine Y32 ?_;refine b5 (j6 SS (h0 := by omega) (hp := ah8 hi)) ?_;refine yL ?_;refine Y19 ?_;refine b5 (j6 SS (h0 := by omega) (hp := ah8 hi2)) ?_;refine yL ?_;refine yI ?_;refine Y23 ?_;refine Cq ?_ ?_
   ·intro h2
    have hf : s7 (fun a b : Nat => (a : Int) == (b : Int)) l m = false := N3 (i := i.1 + 1) (by rw [htk]; simp at h2; simp; omega)
    refine Y9 ?_;refine Rq ?_;exact l7 hf.symm
   ·intro h2
    have hnext : s7 (fun a b : Nat => (a : Int) == (b : Int)) (l.take (i.1 + 1)) (m.take (i.1 + 1)) = true := by rw [htk]; simp at h2; simp; omega
    refine Y52 ?_
    refine ⟨⟨i.1 + 1, hnext⟩, by show l.length - (i.1 + 1) < l.length - i.1; omega, k7 ?_ ?_⟩
    ·exact zE
    ·exact zH
  ·intro h1
   have hf : s7 (fun a b : Nat => (a : Int) == (b : Int)) l m = true := by
    have := i.2
    rwa [List.take_of_length_le (by rw [B8] at h1; simp at h1; omega), List.take_of_length_le (by rw [B8] at h1; simp at h1; omega)] at this
   refine Tri.exit ?_;refine Y9 ?_;refine Rq ?_;exact l7 hf.symm
def bI1 (r : List Int) (n : Int) (t : Tm) : Tm := .mk 11 n r [t] []
def aZ4 (b : Tm) : Tm := .mk 12 0 (b7 11) [prM 1 (bI1 (b7 11) 0 (nuM 5)) (nuM 1), vaM 0, b] []
theorem am9 (b : Tm) : FCall Tryz.prog gA 69 [.pu (tmc 0 b)] (.pu (tmc 0 (aZ4 b))) := by
 refine Fq 13 Tryz.func69 ?_;intro w0 M ρ0 D0
 refine Y68 ?_;refine Y51 ?_;refine yG ?_;refine Dq (X5 5) ?_;refine Dq (aW5 (b7 11) 0 (nuM 5)) ?_;refine Dq (X5 1) ?_;refine Dq (aA6 1 (bI1 (b7 11) 0 (nuM 5)) (nuM 1)) ?_;refine Dq (W3 0) ?_;refine Y66 ?_;refine Dq (Ha_c (b7 11) [prM 1 (bI1 (b7 11) 0 (nuM 5)) (nuM 1), vaM 0, b]) ?_;refine Y29 ?_;refine Rc ?_;exact ToPu.imp (by repeat constructor)
def awT : List KT := [(b7 21, apM (deM (b7 21)) (nuM 0))]
def aw1 : Tm := apM (laM (prM 1 (vaM 0) (vaM 0))) (prM 1 (nuM 1) (nuM 2))
def bA5 : Tm := apM (vaM 0) (vaM 1)
def aX4 : Tm := prM 1 (apM (vaM 0) (nuM 1)) (apM (vaM 0) (nuM 2))
theorem bU6 : ∀ x ∈ awT, a5 x.2 < 2^40 := by intro x hx; simp only [awT, List.mem_singleton] at hx; subst hx; decide
abbrev awA : Pu := .sl 0 130 []
abbrev awB : Pu := .sl 0 136 []
theorem bd4 (t : Tm) {x : Int × List Nat × Int} (h : D3 awT t = x) (hz : a5 t < 2^40) : FCall Tryz.prog gA 18 [.pu (wdP awA awB awT), .pu (tmc 0 t)] (bT9 x) := h ▸ aY3 awA awB awT t bU6 hz
theorem aV4 (t : Tm) (n : Int) {x : EndM × Int} (h : E7 awT t n = x) (hz : a5 t < 2^40) : FCall Tryz.prog gA 35 [.pu (wdP awA awB awT), .pu (tmc 0 t), iv .i64 n] (bX5 x) := h ▸ aN2 awA awB awT t n bU6 hz
theorem cg4 : D3 awT aw1 = (4, [1], 0) := by kernel_rfl
theorem cg1 : E7 awT aw1 10 = (⟨0, 3, nuM 6, Z32, 0⟩, 0) := by kernel_rfl
theorem cg0 : E7 awT (aZ4 bA5) 10 = (⟨0, 4, nuM 6, Z32, 0⟩, 0) := by kernel_rfl
theorem cf9 : E7 awT (aZ4 (vaM 1)) 10 = (⟨0, 1, nuM 5, Z32, 0⟩, 0) := by kernel_rfl
theorem cf8 : E7 awT (aZ4 aX4) 20 = (⟨0, 8, nuM 5, Z32, 0⟩, 0) := by kernel_rfl
theorem cf7 : E7 awT (deM (b7 21)) 10 = (⟨10, 10, p7, Z32, 0⟩, 0) := by kernel_rfl
theorem cg3 : D3 awT (apM (nuM 1) (nuM 2)) = (8, [], 0) := by kernel_rfl
theorem cg2 : D3 awT (bI1 (b7 11) 0 (nuM 1)) = (9, [], 0) := by kernel_rfl
set_option maxHeartbeats 4000000 in
theorem awake_c : FCall Tryz.prog gA 13 [] (bv true) := by
 refine Fq 203 Tryz.func13 ?_;intro w0 M ρ0 D0
 refine Y9 ?_;refine Cq ?_ ?_
 ·intro h0;cases h0
 ·intro h0
  refine Tri.skip ?_;refine Y51 ?_;refine yG ?_;refine Dq (aK4 (b7 21)) ?_;refine Dq (X5 0) ?_;refine Dq (ae3 (deM (b7 21)) (nuM 0)) ?_;refine yP ?_;refine Y74 ?_;refine a8 SS 1 ?_;refine yS ?_;refine G6 [1] ?_;refine yR ?_;refine Dq (W3 0) ?_;refine Dq (W3 0) ?_;refine Dq (aA6 1 (vaM 0) (vaM 0)) ?_;refine Dq (aA7 (prM 1 (vaM 0) (vaM 0))) ?_;refine Dq (X5 1) ?_;refine Dq (X5 2) ?_;refine Dq (aA6 1 (nuM 1) (nuM 2)) ?_;refine Dq (ae3 (laM (prM 1 (vaM 0) (vaM 0))) (prM 1 (nuM 1) (nuM 2))) ?_;refine a8 SS 2 ?_;refine yS ?_;refine a6 [2] ?_;refine Y43 ?_
  refine Dq (bd4 aw1 cg4 (by decide)) ?_;refine Y58 ?_;refine yX ?_;refine yA ?_;refine yA ?_;refine Y12 ?_;refine Y43 ?_;refine Dq (aV4 aw1 10 cg1 (by decide)) ?_;refine Y58 ?_;refine a8 SS 6 ?_;refine Y73 ?_;refine a6 [6] ?_;refine Y5 ?_;refine Dq cb4 ?_;refine Dq (am9 bA5) ?_;refine Dq (aV4 (aZ4 bA5) 10 cg0 (by decide)) ?_;refine Y58 ?_;refine a8 SS 8 ?_;refine Y73 ?_;refine G6 [8] ?_;refine Y5 ?_;refine Dq (W3 1) ?_;refine Dq (am9 (vaM 1)) ?_;refine Dq (aV4 (aZ4 (vaM 1)) 10 cf9 (by decide)) ?_;refine Y54 ?_
  refine yX ?_;refine a8 SS 10 ?_;refine Y73 ?_;refine G6 [10] ?_;refine Y5 ?_;refine Dq bS8 ?_;refine Dq (am9 aX4) ?_;refine Dq (aV4 (aZ4 aX4) 20 cf8 (by decide)) ?_;refine Y58 ?_;refine a8 SS 12 ?_;refine Y73 ?_;refine G6 [12] ?_;refine Y5 ?_;refine yG ?_;refine Dq (aK4 (b7 21)) ?_;refine Dq (aV4 (deM (b7 21)) 10 cf7 (by decide)) ?_;refine Y58 ?_;refine a8 SS 14 ?_;refine Y73 ?_;refine G6 [14] ?_;refine Y5 ?_;refine Dq (X5 1) ?_;refine Dq (X5 2) ?_;refine Dq (ae3 (nuM 1) (nuM 2)) ?_
  refine Dq (bd4 (apM (nuM 1) (nuM 2)) cg3 (by decide)) ?_;refine Y58 ?_;refine yX ?_;refine yA ?_;refine yA ?_;refine yA ?_;refine x8 ?_;refine Y5 ?_;refine yG ?_;refine Dq (X5 1) ?_;refine Dq (aW5 (b7 11) 0 (nuM 1)) ?_;refine Dq (bd4 (bI1 (b7 11) 0 (nuM 1)) cg2 (by decide)) ?_;refine Y58 ?_;refine yX ?_;refine yA ?_;refine yA ?_;refine yA ?_;refine x8 ?_;refine Y56 ?_;refine Y41 ?_;refine Y41 ?_;refine Y41 ?_;refine Y41 ?_;refine Y41 ?_;refine Y41 ?_;refine yM ?_
  refine xM ?_;refine Y21 ?_;refine Y28 ?_;refine q8 zG (v_sl SS) ?_;refine q8 zG (o6 (fun _ => bF4 [1] [1] (by decide) (by decide))) ?_;refine yN ?_;refine Y11 ?_;refine Y21 ?_;refine Y11 ?_;refine Y21 ?_;refine yM ?_;refine xF ?_;refine Y7 ?_;refine Y21 ?_;refine Y11 ?_;refine Y21 ?_;refine yM ?_;refine xF ?_;refine Y7 ?_;refine Y21 ?_;refine Y11 ?_;refine Y21 ?_;refine yM ?_;refine xF ?_;refine Y7 ?_;refine Y21 ?_;refine Y11 ?_;refine Y21 ?_;refine yM ?_;refine xF ?_;refine Y7 ?_;refine Y21 ?_;refine Y11 ?_;refine Y21 ?_;refine Y11 ?_;refine Y21 ?_;refine yM ?_
  refine xM ?_;refine Y21 ?_;refine Y41 ?_;refine Y2 ?_;refine Rq ?_;exact l7 (by kernel_rfl)
theorem ce8 : ∀ g T p, get gA g = some (T, p) → get gL g = some (T, p) := by
 intro g T p h
 simp only [gA, f8, Hs.get] at h
 split at h
 ·rename_i e; subst e; exact h
 ·split at h
  ·rename_i e; subst e; exact h
  ·cases h
theorem bH9 : FCall Tryz.prog gL 13 [] (bv true) := awake_c.moreG ce8
section
variable {G : List (Nat × TypeId × Pu)}
mutual
def ao1 : Pat → Nat
 | .mk _ _ _ ks => Q9 ks + 1
def Q9 : List Pat → Nat
 | [] => 0
 | p :: ps => max (ao1 p) (Q9 ps)
end
mutual
def F3 : Tm → Nat
 | .mk _ _ _ ks cs => max (u9 ks) (w4 cs) + 1
def u9 : List Tm → Nat
 | [] => 0
 | t :: ts => max (F3 t) (u9 ts)
def aU5 : Cs → Nat
 | .mk p t => max (ao1 p) (F3 t)
def w4 : List Cs → Nat
 | [] => 0
 | c :: cs => max (aU5 c) (w4 cs)
end
mutual
theorem aO7 : ∀ p : Pat, ao1 p ≤ k9 p
 | .mk _ _ _ ks => by have := aC4 ks; simp only [ao1, k9]; omega
theorem aC4 : ∀ ps : List Pat, Q9 ps ≤ n7 ps
 | [] => by simp [Q9]
 | p :: ps => by have := aO7 p; have := aC4 ps; simp only [Q9, n7]; omega
end
def LS (mn md : Int) (n dp : Nat) (d c : Int) (r : Bool × Int) : Prop := (c + n ≤ mn ∧ d + dp ≤ md + 1 → r = (false, c + n)) ∧ (¬ (c + n ≤ mn ∧ d + dp ≤ md + 1) → r.1 = true)
mutual
theorem aQ2 (mn md : Int) : ∀ (p : Pat) (d c : Int), LS mn md (k9 p) (ao1 p) d c (l4 mn md d c p)
 | .mk _ _ _ ks, d, c => by
  simp only [l4, k9, ao1]
  split
  ·exact ⟨fun h => by omega, fun _ => rfl⟩
  ·have := aD0 mn md ks (d + 1) (c + 1) (by omega) (by omega)
   unfold LS at *
   rw [show c + ((1 + n7 ks : Nat) : Int) = c + 1 + n7 ks by omega, show d + ((Q9 ks + 1 : Nat) : Int) = d + 1 + Q9 ks by omega];exact this
theorem aD0 (mn md : Int) : ∀ (ks : List Pat) (d c : Int), c ≤ mn → d ≤ md + 1 → LS mn md (n7 ks) (Q9 ks) d c (x7 mn md d c ks)
 | [], d, c, hc, hd => ⟨fun _ => by simp [x7, n7], fun h => by simp only [n7, Q9] at h; omega⟩
 | p :: ps, d, c, hc, hd => by
  obtain ⟨h1, h2⟩ := aQ2 mn md p d c
  simp only [x7, n7, Q9]
  by_cases h : c + k9 p ≤ mn ∧ d + ao1 p ≤ md + 1
  ·rw [h1 h]
   obtain ⟨h3, h4⟩ := aD0 mn md ps d (c + k9 p) h.1 hd
   refine ⟨fun h5 => ?_, fun h5 => ?_⟩
   ·show x7 mn md d (c + k9 p) ps = _
    rw [h3 (by omega)]; congr 1; omega
   ·exact h4 (by omega)
  ·have h3 := h2 h
   generalize l4 mn md d c p = r at h3
   obtain ⟨b, c'⟩ := r
   simp only at h3
   subst h3;exact ⟨fun h5 => by omega, fun _ => rfl⟩
end
mutual
theorem aw3 (mn md : Int) : ∀ (p : Tm) (d c : Int), LS mn md (a5 p) (F3 p) d c (n3 mn md d c p)
 | .mk _ _ _ ks cs, d, c => by
  simp only [n3, a5, F3]
  split
  ·exact ⟨fun h => by omega, fun _ => rfl⟩
  ·obtain ⟨h1, h2⟩ := aC9 mn md ks (d + 1) (c + 1) (by omega) (by omega)
   by_cases h : c + 1 + c7 ks ≤ mn ∧ d + 1 + u9 ks ≤ md + 1
   ·rw [h1 h]
    obtain ⟨h3, h4⟩ := aD1 mn md cs (d + 1) (c + 1 + c7 ks) h.1 (by omega)
    refine ⟨fun h5 => ?_, fun h5 => ?_⟩
    ·show r8 mn md (d + 1) (c + 1 + c7 ks) cs = _
     rw [h3 (by omega)]; congr 1; omega
    ·exact h4 (by omega)
   ·have h3 := h2 h
    generalize n8 mn md (d + 1) (c + 1) ks = r at h3
    obtain ⟨b, c'⟩ := r
    simp only at h3
    subst h3;exact ⟨fun h5 => by omega, fun _ => rfl⟩
theorem aC9 (mn md : Int) : ∀ (ks : List Tm) (d c : Int), c ≤ mn → d ≤ md + 1 → LS mn md (c7 ks) (u9 ks) d c (n8 mn md d c ks)
 | [], d, c, hc, hd => ⟨fun _ => by simp [n8, c7], fun h => by simp only [c7, u9] at h; omega⟩
 | p :: ps, d, c, hc, hd => by
  obtain ⟨h1, h2⟩ := aw3 mn md p d c
  simp only [n8, c7, u9]
  by_cases h : c + a5 p ≤ mn ∧ d + F3 p ≤ md + 1
  ·rw [h1 h]
   obtain ⟨h3, h4⟩ := aC9 mn md ps d (c + a5 p) h.1 hd
   refine ⟨fun h5 => ?_, fun h5 => ?_⟩
   ·show n8 mn md d (c + a5 p) ps = _
    rw [h3 (by omega)]; congr 1; omega
   ·exact h4 (by omega)
  ·have h3 := h2 h
   generalize n3 mn md d c p = r at h3
   obtain ⟨b, c'⟩ := r
   simp only at h3
   subst h3;exact ⟨fun h5 => by omega, fun _ => rfl⟩
theorem bB6 (mn md : Int) : ∀ (p : Cs) (d c : Int), LS mn md (u7 p) (aU5 p) d c (G1 mn md d c p)
 | .mk q t, d, c => by
  obtain ⟨h1, h2⟩ := aQ2 mn md q d c
  simp only [G1, u7, aU5]
  have hp := r9 t
  by_cases h : c + k9 q ≤ mn ∧ d + ao1 q ≤ md + 1
  ·rw [h1 h]
   obtain ⟨h3, h4⟩ := aw3 mn md t d (c + k9 q)
   refine ⟨fun h5 => ?_, fun h5 => ?_⟩
   ·show n3 mn md d (c + k9 q) t = _
    rw [h3 (by omega)]; congr 1; omega
   ·exact h4 (by omega)
  ·have h3 := h2 h
   generalize l4 mn md d c q = r at h3
   obtain ⟨b, c'⟩ := r
   simp only at h3
   subst h3;exact ⟨fun h5 => by omega, fun _ => rfl⟩
theorem aD1 (mn md : Int) : ∀ (ks : List Cs) (d c : Int), c ≤ mn → d ≤ md + 1 → LS mn md (d6 ks) (w4 ks) d c (r8 mn md d c ks)
 | [], d, c, hc, hd => ⟨fun _ => by simp [r8, d6], fun h => by simp only [d6, w4] at h; omega⟩
 | p :: ps, d, c, hc, hd => by
  obtain ⟨h1, h2⟩ := bB6 mn md p d c
  simp only [r8, d6, w4]
  by_cases h : c + u7 p ≤ mn ∧ d + aU5 p ≤ md + 1
  ·rw [h1 h]
   obtain ⟨h3, h4⟩ := aD1 mn md ps d (c + u7 p) h.1 hd
   refine ⟨fun h5 => ?_, fun h5 => ?_⟩
   ·show r8 mn md d (c + u7 p) ps = _
    rw [h3 (by omega)]; congr 1; omega
   ·exact h4 (by omega)
  ·have h3 := h2 h
   generalize G1 mn md d c p = r at h3
   obtain ⟨b, c'⟩ := r
   simp only at h3
   subst h3;exact ⟨fun h5 => by omega, fun _ => rfl⟩
end
end
section
variable {G : List (Nat × TypeId × Pu)}
end
section
variable {G : List (Nat × TypeId × Pu)}
mutual
def rgT : Tm → Prop
 | .mk _ n _ ks cs => (-2^63 ≤ n ∧ n < 2^63) ∧ rgK ks ∧ rgC cs
def rgK : List Tm → Prop
 | [] => True
 | t :: ts => rgT t ∧ rgK ts
def rgC : List Cs → Prop
 | [] => True
 | c :: cs => rgS c ∧ rgC cs
def rgS : Cs → Prop
 | .mk _ t => rgT t
end
end
section
variable {H : Type}
theorem cb0 : Tryz.prog.underlying 5 = some (.int .u8) := by kernel_rfl
end
section
open Go.ChangeShapes Go.WideShapes Go.ChangeAt Go.RowKit
def bl6 (l : List (Nat × Int)) (W : World) : Prop := ∀ g n, (g, n) ∈ l → ∀ j u, ((b7 n).map fun z => Value.int .u8 z)[j]? = some u → W.cell? ⟨g, j, none⟩ = some u
theorem J1 {W : World} {name : String} {n : Int} {g : Nat} {l : List (String × DataW Unit)} (h : laidMetH Tryz.prog l W)
  (hl : l.filter (fun x => x.1 == name) = [(name, Lib.tabData .u8 (b7 n))]) (hg : Tryz.prog.globalNamed name = some g) (hty : (Tryz.prog.globals[g]?).map (·.type) = some 28) :
  ∀ j u, ((b7 n).map fun z => Value.int .u8 z)[j]? = some u → W.cell? ⟨g, j, none⟩ = some u := by
 have h1 := h.filter (fun x => x.1 == name)
 rw [hl] at h1
 have h2 : laidMet Tryz.prog [(name, Lib.tabData .u8 (b7 n))] W := by
  have := (laidMetH_iff.1 h1).1
  simpa [Lib.tabData, DataW.handleName?] using this
 have h3 := Lib.tabIs_of_head (t := 28) (e := 5) (n := 32) hg hty (by kernel_rfl) (by kernel_rfl) (by kernel_rfl) (by kernel_rfl) h2
 intro j u hj
 have := World.var?_cell hg h3 j
 rw [this, List.getElem?_toArray];exact hj
theorem tyU8 {z : Int} : tyP Tryz.prog 5 (.leaf (.int .u8 z)) = true := (by kernel_rfl : (f7 Tryz.prog 5).isNone = true)
theorem cc2 {r : List Int} : tyV Tryz.prog 28 (.pu (f5 r)) = true := (by kernel_rfl : ((f7 Tryz.prog 28).isSome && Tryz.prog.underlyingId 28 == Tryz.prog.underlyingId 28) = true)
theorem bZ1 {n : Int} : ((b7 n).map fun z => Value.int .u8 z).length = Tryz.prog.cellsOf 28 := (by simp [b7] : ((b7 n).map fun z => Value.int .u8 z).length = 32).trans (by kernel_rfl)
def bytL (l : List Int) : List Pu := l.map fun x => .leaf (.int .u8 x)
theorem aO1 {D : Nat → Nat → Prop} {w : World} (zs : List Int) : PRs Tryz.prog D w (List.replicate zs.length (1, 5)) (bytL zs) (zs.map fun z => Value.int .u8 z) := by
 induction zs with
 | nil => exact .nil
 | cons z zs ih => exact PRs.cons (x := [.int .u8 z]) (.leaf rfl) rfl tyU8 ih
def bd1 (W : World) : Cfg := { D := fun b _ => b < W.heap.size, ρ := fun _ => none, own := fun _ => none }
def gOf (l : List (Nat × Int)) : List (Nat × TypeId × Pu) := l.map fun x => (x.1, 28, f5 (b7 x.2))
theorem bO3 {l : List (Nat × Int)} {g : Nat} {T : TypeId} {p : Pu} (h : get (gOf l) g = some (T, p)) : ∃ n, (g, n) ∈ l ∧ T = 28 ∧ p = f5 (b7 n) := by
 induction l with
 | nil => cases h
 | cons x l ih =>
  obtain ⟨i, n⟩ := x
  simp only [gOf, List.map_cons, f8] at h
  split at h
  ·rename_i e; subst e; cases h; exact ⟨n, by simp, rfl, rfl⟩
  ·obtain ⟨m, h1, h2⟩ := ih h
   exact ⟨m, by simp [h1], h2⟩
theorem ce7 {l : List (Nat × Int)} {W : World} (h : bl6 l W) : GL Tryz.prog (gOf l) (bd1 W) W := by
 intro g T p hg
 obtain ⟨n, hm, rfl, rfl⟩ := bO3 hg
 have hT := h g n hm
 refine VR.pp (x := (b7 n).map fun z => Value.int .u8 z) (.pu (PR.agg (cs := List.replicate 32 (1, 5)) (by kernel_rfl) (aO1 (b7 n)))) cc2 bZ1 fun j u hj => ⟨by rw [Nat.zero_add]; exact hT j u hj, ?_⟩
 ·have := hT j u hj
  show g < W.heap.size
  refine Nat.lt_of_not_le fun hb => ?_
  simp only [World.cell?, Array.getElem?_eq_none hb] at this
  cases this
theorem bO4 {l : List (Nat × Int)} {W : World} (h : bl6 l W) : Frag Tryz.prog (gOf l) (bd1 W) W [] [] where
 heap := fun l ob h => by cases h
 inj := fun l l' b R R' ob ob' h => by cases h
 dObj := fun l ob b R o h => by cases h
 dLt := fun b o h => h
 own := fun b q k h => by cases h
 gl := ce7 h
theorem bR1 {l : List (Nat × Int)} {W : World} (hT : bl6 l W) {f : FuncId} {args : List PV} {xs : Array Value} (hc : FCall Tryz.prog (gOf l) f args (bv true)) (hx : VFs Tryz.prog (bd1 W) W args xs.toList) :
  Calls Tryz.prog f xs W fun e W' => e = .returned (.bool true) ∧ Below W.heap.size W W' := by
 refine (hc (bd1 W) W _ (bO4 hT) hx).mono fun e W' ⟨y, C', he, A⟩ => ?_
 subst he
 have hM : ∀ b, ¬ I8 (bd1 W) [] b := fun b hb => by
  rcases hb with ⟨l, ob, R, h1, _⟩ | ⟨l, p, k, ob, h1, _⟩ <;> cases h1
 refine ⟨?_, ⟨A.os, A.tape, A.output, A.size, fun b hb => A.block b hb (hM b)⟩⟩
 cases A.val with
 | one h hs =>
  have h1 := h.pu_inv
  generalize hc : y.cells.toList = c at h1
  cases h1
  cases y <;> simp_all [Value.cells, d7, PV.isAgg]
theorem cg7 {a b : Bool} (h1 : a = true) (h2 : b = true) : (a && b) = true := by rw [h1, h2]; rfl
theorem aQ9 : laidOutB Tryz.prog = true := by kernel_rfl
theorem undB : Tryz.prog.underlying 4 = some .bool := by kernel_rfl
section
variable {H : Type} {enc : TypeId × Value → H} {W : World}
end
end
section
variable {G : List (Nat × TypeId × Pu)}
theorem bH0 (ps : List Pu) (hlen : ps.length < 1000000000) : OCall Tryz.prog G 110 [.pu (.sl 0 5 ps)] 0 5 ps := by
 refine OCall.of_tri 8 2 Tryz.func110 rfl rfl rfl fun w0 M ρ0 D0 => ?_
 refine Y9 ?_;refine Tri.nilEq rfl (fun b hb => ?_);refine tQ ?_;refine Tri.cond rfl (fun h => ?_) (fun h => ?_)
 ·skip
  refine Y20 ?_;exact Tri.ret ⟨.inr rfl, .inr ⟨rfl, hb h⟩⟩
 ·refine Tri.skip ?_
  refine yR ?_;refine yZ ?_;refine yM ?_;refine aZ2 ?_ ?_
  ·simp; omega
  refine Y12 ?_;exact Tri.ret ⟨.inr rfl, .inl rfl⟩
theorem bG8 (ps : List Pu) (hlen : ps.length < 1000000000) : OCall Tryz.prog G 225 [.pu (.sl 0 58 ps)] 0 58 ps := by
 refine OCall.of_tri 8 2 Tryz.func225 rfl rfl rfl fun w0 M ρ0 D0 => ?_
 refine Y9 ?_;refine Tri.nilEq rfl (fun b hb => ?_);refine tQ ?_;refine Tri.cond rfl (fun h => ?_) (fun h => ?_)
 ·skip
  refine Y20 ?_;exact Tri.ret ⟨.inr rfl, .inr ⟨rfl, hb h⟩⟩
 ·refine Tri.skip ?_
  refine yR ?_;refine yZ ?_;refine yM ?_;refine aZ2 ?_ ?_
  ·simp; omega
  refine Y12 ?_;exact Tri.ret ⟨.inr rfl, .inl rfl⟩
theorem bG9 (ps : List Pu) (hlen : ps.length < 1000000000) : OCall Tryz.prog G 211 [.pu (.sl 0 28 ps)] 0 28 ps := by
 refine OCall.of_tri 8 2 Tryz.func211 rfl rfl rfl fun w0 M ρ0 D0 => ?_
 refine Y9 ?_;refine Tri.nilEq rfl (fun b hb => ?_);refine tQ ?_;refine Tri.cond rfl (fun h => ?_) (fun h => ?_)
 ·skip
  refine Y20 ?_;exact Tri.ret ⟨.inr rfl, .inr ⟨rfl, hb h⟩⟩
 ·refine Tri.skip ?_
  refine yR ?_;refine yZ ?_;refine yM ?_;refine aZ2 ?_ ?_
  ·simp; omega
  refine Y12 ?_;exact Tri.ret ⟨.inr rfl, .inl rfl⟩
inductive Ty where
 | mk (kind num : Int) (ref : List Int) (kids : List Ty)
mutual
def tyc : Ty → Pu
 | .mk k n r ks => az9 k n r (w6 ks)
def w6 : List Ty → List Pu
 | [] => []
 | t :: ts => tyc t :: w6 ts
end
theorem aF4 : ∀ ks, w6 ks = ks.map tyc
 | [] => rfl
 | p :: ps => by simp [w6, aF4 ps]
theorem A2 (ks : List Ty) : (w6 ks).length = ks.length := by simp [aF4]
theorem aF3 {ks : List Ty} {i : Nat} (h : i < ks.length) : (w6 ks)[i]? = some (tyc ks[i]) := by simp [aF4, h]
theorem aX3 (a b : List Ty) : w6 (a ++ b) = w6 a ++ w6 b := by simp [aF4]
instance (t : Ty) : TyV Tryz.prog 58 (.pu (tyc t)) := by cases t; exact inferInstanceAs (TyV Tryz.prog 58 (.pu (.agg _ _)))
theorem F7 (l m : List Ty) (hl : l.length < 1000000) (hm : m.length < 1000000) : FCall Tryz.prog G 175 [.pu (.sl 0 58 (w6 l)), .pu (.sl 0 58 (w6 m))] (.pu (.sl 0 58 (w6 (l ++ m)))) := by
 have h1 := A2 l
 have h2 := A2 m
 refine Fq 9 Tryz.func175 ?_;intro w0 M ρ0 D0
 rw [aX3];refine Y48 ?_;refine aG7 (bG8 (w6 l) (by omega)) ?_;refine yM ?_;refine by4 ?_ ?_
 ·simp [A2]; omega
 refine Y2 ?_;refine Rq ?_;exact VImp.refl _
end
section
variable {G : List (Nat × TypeId × Pu)}
structure Sd where
 a : Int
 d : Int
def byP (bs : List Int) : List Pu := bs.map fun b => .leaf (.int .u8 b)
theorem ay9 (bs : List Int) : (byP bs).length = bs.length := by simp [byP]
def stP (bs : List Int) (s : Sd) : Pu := .agg 171 [.sl 0 5 (byP bs), .leaf (.int .i64 s.a), .leaf (.int .u64 s.d)]
abbrev stO (bs : List Int) (s : Sd) : List (Nat × Ob) := [(950, .var 171 (.pu (stP bs s)))]
def X4 (bs : List Int) (s : Sd) : Sd :=
 if 0 < bs.length then ⟨s.a + 1, IntKind.u64.wrap (BitVec.ofInt IntKind.u64.bits s.d ^^^ BitVec.ofInt IntKind.u64.bits (IntKind.u64.wrap (bs.getD (s.a.tmod bs.length).toNat 0))).toNat⟩ else s
def aa1 (d : Int) : Int := IntKind.u64.wrap (IntKind.u64.wrap (d * 6364136223846793005) + 1442695040888963407)
def M0 (bs : List Int) (s : Sd) : Int × Sd := (IntKind.i64.wrap ((aa1 (X4 bs s).d).fdiv (2 ^ 40)), ⟨(X4 bs s).a, aa1 (X4 bs s).d⟩)
theorem cb8 (n : Int) : 0 ≤ IntKind.u64.wrap n ∧ IntKind.u64.wrap n < 18446744073709551616 := by
 have : IntKind.u64.wrap n = n % 18446744073709551616 := by simp [IntKind.wrap, IntKind.bits, IntKind.signed]
 omega
theorem ca6 (bs : List Int) (s : Sd) : 0 ≤ (M0 bs s).1 ∧ (M0 bs s).1 < 16777216 := by
 have h := cb8 (IntKind.u64.wrap ((X4 bs s).d * 6364136223846793005) + 1442695040888963407)
 have e : (aa1 (X4 bs s).d).fdiv (2 ^ 40) = aa1 (X4 bs s).d / 1099511627776 := by
  rw [Int.fdiv_eq_ediv_of_nonneg _ (by decide)]; rfl
 simp only [M0]
 rw [e]
 unfold aa1
 rw [b4 (by omega) (by omega)]
 omega
theorem bQ6 (n : Int) : X2 Tryz.prog 5 169 (iv .u8 n) = some (iv .u64 (IntKind.u64.wrap n)) := by
 have hu : Tryz.prog.underlying 5 = some (.int .u8) := by kernel_rfl
 have hi : Tryz.prog.underlying 169 = some (.int .u64) := by kernel_rfl
 unfold X2 iv
 simp only [hu, hi]
theorem bT3 (T : TypeId) (n : Int) : R9 Tryz.prog .shr T (iv .u64 n) (iv .u64 40) = some (iv .u64 (n.fdiv (2 ^ 40))) := by
 simp [R9, iv, IntKind.bits]
theorem bk6 (n : Int) : X2 Tryz.prog 169 3 (iv .u64 n) = some (iv .i64 (IntKind.i64.wrap n)) := by
 have hu : Tryz.prog.underlying 169 = some (.int .u64) := by kernel_rfl
 have hi : Tryz.prog.underlying 3 = some (.int .i64) := by kernel_rfl
 unfold X2 iv
 simp only [hu, hi]
theorem bk7 (n : Int) : X2 Tryz.prog 3 5 (iv .i64 n) = some (iv .u8 (IntKind.u8.wrap n)) := by
 have hu : Tryz.prog.underlying 3 = some (.int .i64) := by kernel_rfl
 have hi : Tryz.prog.underlying 5 = some (.int .u8) := by kernel_rfl
 unfold X2 iv
 simp only [hu, hi]
theorem ca5 (bs : List Int) (s : Sd) (h0 : 0 ≤ s.a) (h1 : s.a < 4611686018427387904) (hl : bs.length < 1000000) : HCall Tryz.prog G 140 [.ptr 950 [] 171] [] (stO bs s) (iv .i64 (M0 bs s).1) (stO bs (M0 bs s).2) [] := by
 have hbl := ay9 bs
 refine HCall.of_triD tbl 55 [950] Tryz.func140 rfl rfl rfl fun w0 M ρ0 D0 => ?_
 by_cases hb : 0 < bs.length
 ·obtain ⟨j, hj⟩ : ∃ j : Nat, s.a.tmod (byP bs).length = (j : Int) := ⟨(s.a.tmod (byP bs).length).toNat, by
   rw [Int.tmod_eq_emod_of_nonneg h0]
   have := Int.emod_nonneg s.a (b := ((byP bs).length : Int)) (by omega)
   omega⟩
  have hjl : j < bs.length := by
   rw [Int.tmod_eq_emod_of_nonneg h0] at hj
   have := Int.emod_lt_of_pos s.a (b := ((byP bs).length : Int)) (by omega)
   omega
  have hm : X4 bs s = ⟨IntKind.i64.wrap (s.a + 1), IntKind.u64.wrap (BitVec.ofInt IntKind.u64.bits s.d ^^^ BitVec.ofInt IntKind.u64.bits (IntKind.u64.wrap (bs[j]'hjl))).toNat⟩ := by
   unfold X4
   rw [if_pos hb, b4 (by omega) (by omega), ← hbl, hj]
   simp [hjl]
  have hp : (byP bs)[(j : Int).toNat]? = some (.leaf (.int .u8 (bs[j]'hjl))) := by simp [byP, hjl]
  have e : M0 bs s = (IntKind.i64.wrap ((aa1 (X4 bs s).d).fdiv (2 ^ 40)), ⟨(X4 bs s).a, aa1 (X4 bs s).d⟩) := rfl
  rw [e, hm]
  simp only [aa1]
  refine Y48 ?_;refine yY ?_;refine Y64 ?_;refine Y53 ?_;refine Tri.cond rfl (fun hc => ?_) (fun hc => ?_)
  ·skip
   refine Y55 ?_;refine yM ?_;refine yY ?_;refine Y8 ?_;refine yM ?_;refine Y13 ?_;refine yM ?_;refine yY ?_;refine Y64 ?_;refine b5 (be2 SS (u := iv .i64 (j : Int)) (h := by rw [← hj]; simp only [aw9]; rw [if_neg (by omega)])) ?_;refine Xq hp ?_;refine yL ?_;refine b5 (Z0 SS (hu := bQ6 _)) ?_;refine yI ?_;refine Y60 ?_;refine yS ?_;refine x8 ?_;refine Y55 ?_;refine yI ?_;refine Y71 ?_;refine Y32 ?_;refine Y13 ?_;refine yI ?_;refine yI ?_;refine Y71 ?_;refine Y55 ?_;refine b5 (z7 SS (h := bT3 _ _)) ?_
   refine b5 (Z0 SS (hu := bk6 _)) ?_;refine Y2 ?_;refine Rqz ?_;exact VImp.refl _
  ·exfalso
   have := of_decide_eq_false hc
   omega
 ·have hm : X4 bs s = s := if_neg hb
  have e : M0 bs s = (IntKind.i64.wrap ((aa1 (X4 bs s).d).fdiv (2 ^ 40)), ⟨(X4 bs s).a, aa1 (X4 bs s).d⟩) := rfl
  rw [e, hm]
  simp only [aa1]
  refine Y48 ?_;refine yY ?_;refine Y64 ?_;refine Y53 ?_;refine Tri.cond rfl (fun hc => ?_) (fun hc => ?_)
  ·exfalso
   have := of_decide_eq_true hc
   omega
  ·skip
   refine Tri.skip ?_;refine Y32 ?_;refine Y13 ?_;refine yI ?_;refine yI ?_;refine Y71 ?_;refine Y55 ?_;refine b5 (z7 SS (h := bT3 _ _)) ?_;refine b5 (Z0 SS (hu := bk6 _)) ?_;refine Y2 ?_;refine Rqz ?_;exact VImp.refl _
class Bd (s : Sd) (l k : outParam Int) : Prop where
 h : 0 ≤ s.a ∧ s.a - l + 2002 * max l 0 ≤ 1152921504606846976 + k
class Bz (bs : List Int) : Prop where
 h : bs.length < 1000000
theorem Bd.ok {s : Sd} {l k : Int} (h : Bd s l k) (hk : k ≤ 1000000) : 0 ≤ s.a ∧ s.a < 4611686018427387904 := by
 have := h.h
 omega
theorem cd2 (bs : List Int) (s : Sd) : s.a ≤ (X4 bs s).a ∧ (X4 bs s).a ≤ s.a + 1 := by
 unfold X4
 split <;> simp <;> omega
instance (bs : List Int) (s : Sd) (l k : Int) [h : Bd s l k] : Bd (M0 bs s).2 l (k + 1) := ⟨by
 have h1 := h.h
 have h2 := cd2 bs s
 simp only [M0]
 omega⟩
def a4 (bs : List Int) (n : Int) (s : Sd) : Int × Sd := if n ≤ 0 then (0, s) else ((M0 bs s).1.tmod n, (M0 bs s).2)
theorem p8 (bs : List Int) {n : Int} (s : Sd) (hn : 0 < n) : 0 ≤ (a4 bs n s).1 ∧ (a4 bs n s).1 < n := by
 unfold a4
 rw [if_neg (by omega)]
 have := ca6 bs s
 simp only
 rw [Int.tmod_eq_emod_of_nonneg this.1]
 have h1 := Int.emod_nonneg (M0 bs s).1 (b := n) (by omega)
 have h2 := Int.emod_lt_of_pos (M0 bs s).1 hn
 omega
instance (bs : List Int) (n : Int) (s : Sd) (l k : Int) [h : Bd s l k] : Bd (a4 bs n s).2 l (k + 1) := ⟨by
 unfold a4
 split
 ·have := h.h
  show 0 ≤ s.a ∧ s.a - l + 2002 * max l 0 ≤ 1152921504606846976 + (k + 1)
  omega
 ·exact (inferInstance : Bd (M0 bs s).2 l (k + 1)).h⟩
theorem n4 (bs : List Int) [hz : Bz bs] (n : Int) (s : Sd) {l k : Int} [h : Bd s l k] (hk : k ≤ 1000000 := by decide) : HCall Tryz.prog G 76 [.ptr 950 [] 171, iv .i64 n] [] (stO bs s) (iv .i64 (a4 bs n s).1) (stO bs (a4 bs n s).2) [] := by
 have h1 := h.ok hk
 refine HCall.of_triD tbl 11 [950] Tryz.func76 rfl rfl rfl fun w0 M ρ0 D0 => ?_
 by_cases hn : n ≤ 0
 ·have e : a4 bs n s = (0, s) := if_pos hn
  rw [e];refine Y20 ?_;refine Y15 ?_;refine Y0 ?_;refine Tri.cond rfl (fun hc => ?_) (fun hc => ?_)
  ·skip
   refine Y9 ?_;refine Rqz ?_;exact VImp.refl _
  ·exfalso
   have := of_decide_eq_false hc
   omega
 ·have e : a4 bs n s = ((M0 bs s).1.tmod n, (M0 bs s).2) := if_neg hn
  rw [e];refine Y20 ?_;refine Y15 ?_;refine Y0 ?_;refine Tri.cond rfl (fun hc => ?_) (fun hc => ?_)
  ·exfalso
   have := of_decide_eq_true hc
   omega
  ·skip
   refine Y72 ?_;refine a9 (ca5 bs s h1.1 h1.2 hz.h) ?_;refine yM ?_;refine b5 (be2 SS (u := iv .i64 ((M0 bs s).1.tmod n)) (h := by simp only [aw9]; rw [if_neg (by omega)])) ?_;refine Y2 ?_;refine Rqz ?_;exact VImp.refl _
def c6 (bs : List Int) (n : Int) (s : Sd) : Bool × Sd := ((a4 bs n s).1 == 0, (a4 bs n s).2)
instance (bs : List Int) (n : Int) (s : Sd) (l k : Int) [h : Bd s l k] : Bd (c6 bs n s).2 l (k + 1) := (inferInstance : Bd (a4 bs n s).2 l (k + 1))
theorem L4 (bs : List Int) [hz : Bz bs] (n : Int) (s : Sd) {l k : Int} [h : Bd s l k] (hk : k ≤ 1000000 := by decide) : HCall Tryz.prog G 115 [.ptr 950 [] 171, iv .i64 n] [] (stO bs s) (bv (c6 bs n s).1) (stO bs (c6 bs n s).2) [] := by
 refine HCall.of_triD tbl 9 [950] Tryz.func115 rfl rfl rfl fun w0 M ρ0 D0 => ?_
 refine Y20 ?_;refine Y32 ?_;refine a9 (n4 bs n s hk) ?_;refine yI ?_;refine Y2 ?_;refine Rqz ?_;exact VImp.refl _
def y5 (bs : List Int) (lo hi : Int) (s : Sd) : Int × Sd := (lo + (a4 bs (hi - lo + 1) s).1, (a4 bs (hi - lo + 1) s).2)
instance (bs : List Int) (a b : Int) (s : Sd) (l k : Int) [h : Bd s l k] : Bd (y5 bs a b s).2 l (k + 1) := (inferInstance : Bd (a4 bs (b - a + 1) s).2 l (k + 1))
theorem aI4 (bs : List Int) {a b : Int} (s : Sd) (h : a ≤ b) : a ≤ (y5 bs a b s).1 ∧ (y5 bs a b s).1 ≤ b := by
 have := p8 bs s (n := b - a + 1) (by omega)
 simp only [y5]
 omega
theorem bb3 (bs : List Int) [hz : Bz bs] (a b : Int) (s : Sd) {l k : Int} [h : Bd s l k] (hk : k ≤ 1000000 := by decide) (hab : 0 ≤ a ∧ a ≤ b ∧ b ≤ 1000 := by decide) : HCall Tryz.prog G 207 [.ptr 950 [] 171, iv .i64 a, iv .i64 b] [] (stO bs s) (iv .i64 (y5 bs a b s).1) (stO bs (y5 bs a b s).2) [] := by
 have hf := aI4 bs s hab.2.1
 simp only [y5] at hf
 refine HCall.of_triD tbl 15 [950] Tryz.func207 rfl rfl rfl fun w0 M ρ0 D0 => ?_
 have e1 : IntKind.i64.wrap (IntKind.i64.wrap (b - a) + 1) = b - a + 1 := by rw [b4 (n := b - a) (by omega) (by omega), b4 (by omega) (by omega)]
 refine Y48 ?_;refine Y19 ?_;refine yM ?_;refine yI ?_;refine yI ?_;rw [e1];refine a9 (n4 bs (b - a + 1) s hk) ?_;refine yI ?_;refine Y2 ?_;refine Rqz ?_;exact d4 (b4 (n := a + (a4 bs (b - a + 1) s).1) (by omega) (by omega))
instance : AgT Tryz.prog 28 (List.replicate 32 5) := ⟨by kernel_rfl⟩
def p5 (bs : List Int) (a n : Int) (s : Sd) : List Int × Sd := (b7 (y5 bs a (a + n - 1) s).1, (y5 bs a (a + n - 1) s).2)
instance (bs : List Int) (a b : Int) (s : Sd) (l k : Int) [h : Bd s l k] : Bd (p5 bs a b s).2 l (k + 1) := (inferInstance : Bd (y5 bs a (a + b - 1) s).2 l (k + 1))
theorem au8 (bs : List Int) [hz : Bz bs] (a n : Int) (s : Sd) {l k : Int} [h : Bd s l k] (hk : k ≤ 1000000 := by decide) (hab : 0 ≤ a ∧ 1 ≤ n ∧ a + n ≤ 200 := by decide) : HCall Tryz.prog G 206 [.ptr 950 [] 171, iv .i64 a, iv .i64 n] [] (stO bs s) (.pu (f5 (p5 bs a n s).1)) (stO bs (p5 bs a n s).2) [] := by
 have hf := aI4 bs s (a := a) (b := a + n - 1) (by omega)
 have e0 : IntKind.u8.wrap (y5 bs a (a + n - 1) s).1 = (y5 bs a (a + n - 1) s).1 := by
  generalize (y5 bs a (a + n - 1) s).1 = x at hf
  simp only [IntKind.wrap, IntKind.bits, IntKind.signed]
  simp
  omega
 refine HCall.of_triD tbl 16 [950] Tryz.func206 rfl rfl rfl fun w0 M ρ0 D0 => ?_
 have e1 : IntKind.i64.wrap (IntKind.i64.wrap (a + n) - 1) = a + n - 1 := by rw [b4 (n := a + n) (by omega) (by omega), b4 (by omega) (by omega)]
 refine yR ?_;refine a8 SS 6 ?_;refine a6 [6] ?_;refine Y1 ?_;refine Y19 ?_;refine yM ?_;refine yI ?_;refine yI ?_;rw [e1];refine a9 (bb3 bs a (a + n - 1) s hk (by omega)) ?_;refine b5 (Z0 SS (hu := bk7 _)) ?_;rw [e0];refine Y49 ?_;refine Rcz ?_;exact ToPu.imp (by repeat constructor)
end
section
theorem Bd.mono {s : Sd} {l k k' : Int} (h : Bd s l k) (hk : k ≤ k') : Bd s l k' := ⟨by have := h.h; omega⟩
inductive BT where
 | n
 | b
 deriving DecidableEq
inductive TT where
 | ba (x : BT)
 | li (x : BT)
 | op (x : BT)
 | pa (x y : BT)
 | fn (x : BT)
 deriving DecidableEq
def n6 : Ty := .mk 2 0 Z32 []
def v7 : Ty := .mk 1 99 Z32 []
def BT.ty : BT → Ty
 | .n => n6
 | .b => .mk 4 0 (b7 1) []
def TT.ty : TT → Ty
 | .ba x => x.ty
 | .li x => .mk 4 0 (b7 2) [x.ty]
 | .op x => .mk 4 0 (b7 4) [x.ty]
 | .pa x y => .mk 4 0 (b7 3) [x.ty, y.ty]
 | .fn x => .mk 3 0 Z32 [n6, x.ty]
inductive AB where
 | st
 | fl
 | ab
 deriving DecidableEq
def AB.ref : AB → List Int
 | .st => b7 11
 | .fl => b7 12
 | .ab => b7 13
def leM (s t : Tm) : Tm := .mk 5 0 Z32 [s, t] []
def coM (r : List Int) (n : Int) (ks : List Tm) : Tm := .mk 8 n r ks []
def doT (r : List Int) (n : Int) (t : Tm) : Tm := .mk 11 n r [t] []
def haM (r : List Int) (ks : List Tm) : Tm := .mk 12 0 r ks []
def S2 : Tm := .mk 0 0 Z32 [] []
variable (bs : List Int)
def f6 (s : Sd) : BT × Sd := (if (a4 bs 6 s).1 < 4 then .b else .n, (a4 bs 6 s).2)
instance (s : Sd) (l k : Int) [h : Bd s l k] : Bd (f6 bs s).2 l (k + 1) := (inferInstance : Bd (a4 bs 6 s).2 l (k + 1))
def v4 (s : Sd) : TT × Sd :=
 if (a4 bs 6 s).1 = 0 then (.li (f6 bs (a4 bs 6 s).2).1, (f6 bs (a4 bs 6 s).2).2)
 else if (a4 bs 6 s).1 = 1 then (.op (f6 bs (a4 bs 6 s).2).1, (f6 bs (a4 bs 6 s).2).2)
 else if (a4 bs 6 s).1 = 2 then (.pa (f6 bs (a4 bs 6 s).2).1 (f6 bs (f6 bs (a4 bs 6 s).2).2).1, (f6 bs (f6 bs (a4 bs 6 s).2).2).2)
 else (.ba (if (a4 bs 6 s).1 < 4 then .b else .n), (a4 bs 6 s).2)
instance (s : Sd) (l k : Int) [h : Bd s l k] : Bd (v4 bs s).2 l (k + 3) := by
 unfold v4
 split
 ·exact Bd.mono (inferInstance : Bd (f6 bs (a4 bs 6 s).2).2 l _) (by omega)
 split
 ·exact Bd.mono (inferInstance : Bd (f6 bs (a4 bs 6 s).2).2 l _) (by omega)
 split
 ·exact Bd.mono (inferInstance : Bd (f6 bs (f6 bs (a4 bs 6 s).2).2).2 l _) (by omega)
 ·exact Bd.mono (inferInstance : Bd (a4 bs 6 s).2 l _) (by omega)
def P9 (s : Sd) : TT × Sd := if (c6 bs 5 s).1 then (.fn (f6 bs (c6 bs 5 s).2).1, (f6 bs (c6 bs 5 s).2).2) else v4 bs (c6 bs 5 s).2
instance (s : Sd) (l k : Int) [h : Bd s l k] : Bd (P9 bs s).2 l (k + 4) := by
 unfold P9
 split
 ·exact Bd.mono (inferInstance : Bd (f6 bs (c6 bs 5 s).2).2 l _) (by omega)
 ·exact Bd.mono (inferInstance : Bd (v4 bs (c6 bs 5 s).2).2 l _) (by omega)
mutual
def G9 : Ty → Ty → Bool
 | .mk k n r ks, .mk k' n' r' ks' => k == k' && n == n' && r == r' && Q0 ks ks'
def Q0 : List Ty → List Ty → Bool
 | [], [] => true
 | t :: ts, u :: us => G9 t u && Q0 ts us
 | [], _ :: _ => false
 | _ :: _, [] => false
end
def knM (vars : List Ty) (t : Ty) (i : Nat) : List Tm := (List.range i).filterMap fun (j : Nat) => match vars[j]? with
 | some u => if G9 u t then some (vaM ((vars.length : Int) - 1 - (j : Int))) else none
 | none => none
def r6 (vars : List Ty) (t : Ty) (s : Sd) : (Tm × Bool) × Sd :=
 if (knM vars t vars.length).length = 0 then ((S2, false), s)
 else (((knM vars t vars.length).getD (a4 bs (knM vars t vars.length).length s).1.toNat S2, true), (a4 bs (knM vars t vars.length).length s).2)
instance (vars : List Ty) (t : Ty) (s : Sd) (l k : Int) [h : Bd s l k] : Bd (r6 bs vars t s).2 l (k + 1) := by
 unfold r6
 split
 ·exact Bd.mono h (by omega)
 ·exact (inferInstance : Bd (a4 bs _ s).2 l _)
def S5 (vars : List Ty) (t : Ty) (base : Sd → Tm × Sd) (s : Sd) : Tm × Sd :=
 if (r6 bs vars t s).1.2 = true then
  if (c6 bs 3 (r6 bs vars t s).2).1 = false then ((r6 bs vars t s).1.1, (c6 bs 3 (r6 bs vars t s).2).2) else base (c6 bs 3 (r6 bs vars t s).2).2
 else base (r6 bs vars t s).2
theorem bi6 (vars : List Ty) (t : Ty) (base : Sd → Tm × Sd) (c : Int) (hc : 0 ≤ c) (hb : ∀ (s : Sd) (l k : Int), Bd s l k → Bd (base s).2 l (k + c)) (s : Sd) (l k : Int) (h : Bd s l k) : Bd (S5 bs vars t base s).2 l (k + (c + 2)) := by
 unfold S5
 split
 ·have h1 : Bd (c6 bs 3 (r6 bs vars t s).2).2 l (k + 1 + 1) := inferInstance
  split
  ·exact Bd.mono h1 (by omega)
  ·exact Bd.mono (hb _ _ _ h1) (by omega)
 ·have h1 : Bd (r6 bs vars t s).2 l (k + 1) := inferInstance
  exact Bd.mono (hb _ _ _ h1) (by omega)
def ag4 : BT → Sd → Tm × Sd
 | .n, s => (nuM (a4 bs 4 s).1, (a4 bs 4 s).2)
 | .b, s => (coM (b7 1) (a4 bs 2 s).1 [], (a4 bs 2 s).2)
theorem aV3 (x : BT) (s : Sd) (l k : Int) (h : Bd s l k) : Bd (ag4 bs x s).2 l (k + 1) := by
 cases x
 ·exact (inferInstance : Bd (a4 bs 4 s).2 l _)
 ·exact (inferInstance : Bd (a4 bs 2 s).2 l _)
def B0 (x : BT) (vars : List Ty) (s : Sd) : Tm × Sd := S5 bs vars x.ty (ag4 bs x) s
theorem bC2 (x : BT) (vars : List Ty) (s : Sd) (l k : Int) (h : Bd s l k) : Bd (B0 bs x vars s).2 l (k + 3) := bi6 bs vars x.ty _ 1 (by omega) (aV3 bs x) s l k h
instance (x : BT) (vars : List Ty) (s : Sd) (l k : Int) [h : Bd s l k] : Bd (B0 bs x vars s).2 l (k + 3) := bC2 bs x vars s l k h
def S0 (vars : List Ty) : TT → Sd → Tm × Sd
 | .ba x, s => ag4 bs x s
 | .li _, s => (coM (b7 2) 0 [], s)
 | .op _, s => (coM (b7 4) 0 [], s)
 | .pa x y, s => (coM (b7 3) 0 [(B0 bs x vars s).1, (B0 bs y vars (B0 bs x vars s).2).1], (B0 bs y vars (B0 bs x vars s).2).2)
 | .fn x, s => (laM (B0 bs x (vars ++ [n6]) s).1, (B0 bs x (vars ++ [n6]) s).2)
theorem bH8 (vars : List Ty) (t : TT) (s : Sd) (l k : Int) (h : Bd s l k) : Bd (S0 bs vars t s).2 l (k + 6) := by
 cases t with
 | ba x => exact Bd.mono (aV3 bs x s l k h) (by omega)
 | li x => exact Bd.mono h (by omega)
 | op x => exact Bd.mono h (by omega)
 | pa x y => exact Bd.mono (inferInstance : Bd (B0 bs y vars (B0 bs x vars s).2).2 l _) (by omega)
 | fn x => exact Bd.mono (inferInstance : Bd (B0 bs x (vars ++ [n6]) s).2 l _) (by omega)
def K5 (t : TT) (vars : List Ty) (s : Sd) : Tm × Sd := S5 bs vars t.ty (S0 bs vars t) s
instance (t : TT) (vars : List Ty) (s : Sd) (l k : Int) [h : Bd s l k] : Bd (K5 bs t vars s).2 l (k + 8) := bi6 bs vars t.ty _ 6 (by omega) (bH8 bs vars t) s l k h
structure Mk where
 f : TT → List Ty → List AB → Sd → Int → Tm × Sd × Int
class Mc (m : Mk) : Prop where
 h : ∀ t v a s l k, Bd s l k → Bd (m.f t v a s l).2.1 (m.f t v a s l).2.2 (k + 100)
instance (m : Mk) [hm : Mc m] (t : TT) (v : List Ty) (a : List AB) (s : Sd) (l k : Int) [h : Bd s l k] : Bd (m.f t v a s l).2.1 (m.f t v a s l).2.2 (k + 100) := hm.h t v a s l k h
variable (m : Mk)
def m0 : TT → List Ty → List AB → Sd → Int → Tm × Sd × Int
 | .fn x, v, _, s, l => let e := m.f (.ba x) (v ++ [n6]) [] s l; (laM e.1, e.2)
 | .ba .n, v, a, s, l =>
  let q := a4 bs 9 s
  if q.1 = 0 then let e := m.f (.ba .n) v a q.2 l; (apM (deM (b7 21)) e.1, e.2)
  else if q.1 = 1 then let e := m.f (.ba .n) v a q.2 l; let g := m.f (.ba .n) v a e.2.1 e.2.2; (apM (apM (deM (b7 22)) e.1) g.1, g.2)
  else if q.1 = 2 then let e := m.f (.li .n) v a q.2 l; (apM (deM (b7 23)) e.1, e.2)
  else if q.1 = 3 then let n := a4 bs 4 q.2; (apM (deM (b7 24)) (nuM n.1), n.2, l)
  else if q.1 < 7 then let n := y5 bs 1 5 q.2; let e := m.f (.ba .n) v a n.2 l; let g := m.f (.ba .n) v a e.2.1 e.2.2; (prM n.1 e.1 g.1, g.2)
  else let n := a4 bs 6 q.2; (nuM ([0, 1, 2, 3, 7, 1073741824].getD n.1.toNat 0), n.2, l)
 | .ba .b, _, _, s, l => let n := a4 bs 2 s; (coM (b7 1) n.1 [], n.2, l)
 | .li x, v, a, s, l =>
  let q := c6 bs 3 s
  if q.1 = false then let e := m.f (.ba x) v a q.2 l; let g := m.f (.li x) v a e.2.1 e.2.2; (coM (b7 2) 1 [e.1, g.1], g.2) else (coM (b7 2) 0 [], q.2, l)
 | .op x, v, a, s, l =>
  let q := c6 bs 3 s
  if q.1 = false then let e := m.f (.ba x) v a q.2 l; (coM (b7 4) 1 [e.1], e.2) else (coM (b7 4) 0 [], q.2, l)
 | .pa x y, v, a, s, l => let e := m.f (.ba x) v a s l; let g := m.f (.ba y) v a e.2.1 e.2.2; (coM (b7 3) 0 [e.1, g.1], g.2)
def z9 (t : TT) (v : List Ty) (a : List AB) (s : Sd) (l : Int) : (Tm × Bool) × Sd × Int :=
 if a.length = 0 then ((S2, false), s, l)
 else
  let q := a4 bs a.length s
  let c := a.getD q.1.toNat .ab
  if (t = .ba .n ∧ c ≠ .fl) ∨ (t = .ba .b ∧ c = .fl) then
   if c = .st then let n := a4 bs 2 q.2; let e := m.f (.ba .n) v a n.2 l; ((doT c.ref n.1 e.1, true), e.2)
   else let e := m.f (.ba .n) v a q.2 l; ((doT c.ref 0 e.1, true), e.2)
  else ((S2, false), q.2, l)
def C4 (t : TT) (v : List Ty) (a : List AB) (s : Sd) (l : Int) : Tm × Sd × Int :=
 let u := f6 bs s
 let q := a4 bs 6 u.2
 if q.1 = 0 then
  let x := m.f (.ba .n) v a q.2 l
  let n := a4 bs 3 x.2.1
  let e := m.f t v a n.2 x.2.2
  let g := m.f t (v ++ [n6]) a e.2.1 e.2.2
  (maM x.1 [.mk (pnM n.1) e.1, .mk t8 g.1], g.2)
 else if q.1 = 1 then
  let x := m.f (.ba .b) v a q.2 l
  let n := a4 bs 2 x.2.1
  let e := m.f t v a n.2 x.2.2
  let g := m.f t (v ++ [BT.b.ty]) a e.2.1 e.2.2
  (maM x.1 [.mk (pcM (b7 1) n.1 []) e.1, .mk t8 g.1], g.2)
 else if q.1 = 2 then
  let x := m.f (.li u.1) v a q.2 l
  let e := m.f t v a x.2.1 x.2.2
  let g := m.f t (v ++ [u.1.ty]) a e.2.1 e.2.2
  let h := m.f t (v ++ [u.1.ty, (TT.li u.1).ty]) a g.2.1 g.2.2
  (maM x.1 [.mk (pcM (b7 2) 0 []) e.1, .mk (pcM (b7 2) 1 [t8, pcM (b7 2) 0 []]) g.1, .mk (pcM (b7 2) 1 [t8, t8]) h.1], h.2)
 else if q.1 = 3 then
  let x := m.f (.op u.1) v a q.2 l
  let e := m.f t (v ++ [u.1.ty]) a x.2.1 x.2.2
  let g := m.f t v a e.2.1 e.2.2
  (maM x.1 [.mk (pcM (b7 4) 1 [t8]) e.1, .mk (pcM (b7 4) 0 []) g.1], g.2)
 else if q.1 = 4 then
  let x := m.f (.pa u.1 .n) v a q.2 l
  let n := a4 bs 2 x.2.1
  let e := m.f t (v ++ [u.1.ty]) a n.2 x.2.2
  let g := m.f t (v ++ [u.1.ty, n6]) a e.2.1 e.2.2
  (maM x.1 [.mk (pcM (b7 3) 0 [t8, pnM n.1]) e.1, .mk (pcM (b7 3) 0 [t8, t8]) g.1], g.2)
 else
  let x := m.f (.ba .b) v a q.2 l
  let e := m.f t v a x.2.1 x.2.2
  let g := m.f t v a e.2.1 e.2.2
  (maM x.1 [.mk (pcM (b7 1) 0 []) e.1, .mk (pcM (b7 1) 1 []) g.1], g.2)
def D2 (t : TT) (v : List Ty) (a : List AB) (back : BT) (s : Sd) (l : Int) : Tm × Sd × Int :=
 let e := m.f t (v ++ [n6, v7]) a s l
 let q := c6 bs 3 e.2.1
 if q.1 = false then
  let g := m.f (.ba back) (v ++ [n6, v7]) a q.2 e.2.2
  let w := c6 bs 4 g.2.1
  if w.1 = true then let h := m.f t (v ++ [n6, v7] ++ [t.ty]) a w.2 g.2.2; (leM (apM (vaM 0) g.1) h.1, h.2) else (apM (vaM 0) g.1, w.2, g.2.2)
 else
  let w := c6 bs 4 q.2
  if w.1 = true then let h := m.f t (v ++ [n6, v7] ++ [t.ty]) a w.2 e.2.2; (leM e.1 h.1, h.2) else (e.1, w.2, e.2.2)
def f9 (t : TT) (v : List Ty) (a : List AB) (back : BT) (s : Sd) (l : Int) : Nat → List Tm × Sd × Int
 | 0 => ([], s, l)
 | i + 1 =>
  let p := f9 t v a back s l i
  let b := D2 bs m t v a back p.2.1 p.2.2
  (p.1 ++ [b.1], b.2)
def abM (n : Int) : AB := if n = 0 then .st else if n = 1 then .fl else .ab
def bN5 : TT → Bool
 | .fn _ => true
 | _ => false
def w7 (t : TT) (v : List Ty) (a : List AB) (s : Sd) (l : Int) : Tm × Sd × Int :=
 let c := abM (a4 bs 3 s).1
 let q := c6 bs 4 (a4 bs 3 s).2
 if q.1 = true ∨ bN5 t = true then m0 bs m t v a q.2 l
 else
  let u := f6 bs q.2
  let e := m.f (.ba u.1) v (if c ∈ a then a else a ++ [c]) u.2 l
  let g := m.f t (v ++ [u.1.ty]) a e.2.1 e.2.2
  let z := f9 bs m t v a (if c = .fl then .b else .n) g.2.1 g.2.2 (if c = .st then 2 else 1)
  (haM c.ref (e.1 :: g.1 :: z.1), z.2)
def L7 (t : TT) (v : List Ty) (a : List AB) (s : Sd) (l : Int) : Tm × Sd × Int :=
 let q := a4 bs 10 s
 if q.1 < 2 then
  let x := r6 bs v t.ty q.2
  if x.1.2 = true then (x.1.1, x.2, l) else m0 bs m t v a x.2 l
 else if q.1 = 2 then
  let u := P9 bs q.2
  let e := m.f u.1 v a u.2 l
  let g := m.f t (v ++ [u.1.ty]) a e.2.1 e.2.2
  (leM e.1 g.1, g.2)
 else if q.1 = 3 then
  let u := P9 bs q.2
  let e := m.f t (v ++ [u.1.ty]) a u.2 l
  let g := m.f u.1 v a e.2.1 e.2.2
  (apM (laM e.1) g.1, g.2)
 else if q.1 < 6 then C4 bs m t v a q.2 l
 else if q.1 = 6 then
  let x := z9 bs m t v a q.2 l
  if x.1.2 = true then (x.1.1, x.2) else m0 bs m t v a x.2.1 x.2.2
 else if q.1 = 7 then w7 bs m t v a q.2 l
 else m0 bs m t v a q.2 l
def t5 : Nat → Mk
 | 0 => ⟨fun t v _ s l => ((K5 bs t v s).1, (K5 bs t v s).2, l - 1)⟩
 | n + 1 => ⟨fun t v a s l => if l - 1 ≤ 0 then ((K5 bs t v s).1, (K5 bs t v s).2, l - 1) else L7 bs (t5 n) t v a s (l - 1)⟩
end
section
variable (bs : List Int) (m : Mk)
instance (t : TT) (v : List Ty) (a : List AB) (s : Sd) (l k : Int) [hm : Mc m] [h : Bd s l k] : Bd (m0 bs m t v a s l).2.1 (m0 bs m t v a s l).2.2 (k + 202) := by
 cases t with
 | ba x =>
  cases x <;> simp only [m0] <;> repeat' split
  all_goals (refine Bd.mono inferInstance ?_; omega)
 | li x => simp only [m0]; split <;> (refine Bd.mono inferInstance ?_; omega)
 | op x => simp only [m0]; split <;> (refine Bd.mono inferInstance ?_; omega)
 | pa x y => simp only [m0]; (refine Bd.mono inferInstance ?_; omega)
 | fn x => simp only [m0]; (refine Bd.mono inferInstance ?_; omega)
instance (t : TT) (v : List Ty) (a : List AB) (s : Sd) (l k : Int) [hm : Mc m] [h : Bd s l k] : Bd (z9 bs m t v a s l).2.1 (z9 bs m t v a s l).2.2 (k + 102) := by
 simp only [z9]
 repeat' split
 all_goals (refine Bd.mono inferInstance ?_; omega)
instance (t : TT) (v : List Ty) (a : List AB) (s : Sd) (l k : Int) [hm : Mc m] [h : Bd s l k] : Bd (C4 bs m t v a s l).2.1 (C4 bs m t v a s l).2.2 (k + 403) := by
 simp only [C4]
 repeat' split
 all_goals (refine Bd.mono inferInstance ?_; omega)
instance (t : TT) (v : List Ty) (a : List AB) (back : BT) (s : Sd) (l k : Int) [hm : Mc m] [h : Bd s l k] : Bd (D2 bs m t v a back s l).2.1 (D2 bs m t v a back s l).2.2 (k + 302) := by
 simp only [D2]
 repeat' split
 all_goals (refine Bd.mono inferInstance ?_; omega)
theorem ag2 (t : TT) (v : List Ty) (a : List AB) (back : BT) (s : Sd) (l k : Int) [hm : Mc m] [h : Bd s l k] : ∀ i : Nat, Bd (f9 bs m t v a back s l i).2.1 (f9 bs m t v a back s l i).2.2 (k + 302 * i)
 | 0 => by simp only [f9]; exact Bd.mono h (by omega)
 | i + 1 => by
  have := ag2 t v a back s l k i
  simp only [f9]
  refine Bd.mono inferInstance ?_
  push_cast
  omega
instance (t : TT) (v : List Ty) (a : List AB) (s : Sd) (l k : Int) [hm : Mc m] [h : Bd s l k] : Bd (w7 bs m t v a s l).2.1 (w7 bs m t v a s l).2.2 (k + 810) := by
 simp only [w7]
 split
 ·refine Bd.mono inferInstance ?_; omega
 ·generalize (if abM (a4 bs 3 s).1 ∈ a then a else a ++ [abM (a4 bs 3 s).1]) = a'
  generalize (if abM (a4 bs 3 s).1 = .fl then BT.b else .n) = b'
  refine Bd.mono (ag2 bs m t v a b' _ _ _ _) ?_
  split <;> simp <;> omega
instance (t : TT) (v : List Ty) (a : List AB) (s : Sd) (l k : Int) [hm : Mc m] [h : Bd s l k] : Bd (L7 bs m t v a s l).2.1 (L7 bs m t v a s l).2.2 (k + 811) := by
 simp only [L7]
 repeat' split
 all_goals (refine Bd.mono inferInstance ?_; omega)
theorem Bd.dec {s : Sd} {l k : Int} (h : Bd s l k) : Bd s (l - 1) (k + 1) := ⟨by have := h.h; omega⟩
theorem Bd.down {s : Sd} {l k : Int} (h : Bd s l k) (hl : 0 < l - 1) : Bd s (l - 1) (k - 2001) := ⟨by have := h.h; omega⟩
instance term_mc : ∀ n : Nat, Mc (t5 bs n)
 | 0 => ⟨fun t v a s l k h => by
  have := h.dec
  simp only [t5]
  exact Bd.mono (inferInstance : Bd (K5 bs t v s).2 (l - 1) (k + 1 + 8)) (by omega)⟩
 | n + 1 => ⟨fun t v a s l k h => by
  have ih := term_mc n
  simp only [t5]
  split
  ·have := h.dec
   exact Bd.mono (inferInstance : Bd (K5 bs t v s).2 (l - 1) (k + 1 + 8)) (by omega)
  ·have := h.down (by omega)
   exact Bd.mono (inferInstance : Bd (L7 bs (t5 bs n) t v a s (l - 1)).2.1 _ (k - 2001 + 811)) (by omega)⟩
end
section
section
variable {G : List (Nat × TypeId × Pu)}
theorem bO6 (f : FuncId) (he : j8 Tryz.prog f = true) (φ : Ty → Ty → Bool) (l m : List Ty) (hl : l.length < 2^40) (hm : m.length < 2^40) (h : ∀ i (h1 : i < l.length) (h2 : i < m.length), FCall Tryz.prog G f [.pu (tyc l[i]), .pu (tyc m[i])] (bv (φ l[i] m[i]))) :
  FCall Tryz.prog G 223 [.pu (.sl 0 58 (w6 l)), .pu (.sl 0 58 (w6 m)), fV f] (bv (s7 φ l m)) := by
 refine Fq 32 Tryz.func223 ?_;intro w0 M ρ0 D0
 refine Y48 ?_;refine yC ?_;refine yM ?_;refine yC ?_;refine Y53 ?_;refine Cq ?_ ?_
 ·intro h0
  have hf : s7 φ l m = false := S9 (by rw [A2, A2] at h0; simp at h0; omega)
  refine Y9 ?_;refine Rq ?_;exact l7 hf.symm
 ·intro h0
  have hlm : l.length = m.length := by rw [A2, A2] at h0; simp at h0; omega
  refine Y72 ?_;refine Y38 ?_;refine Tri.block (Tri.loopW (σ := {i : Nat // s7 φ (l.take i) (m.take i) = true}) (fun i => ⟨[(1, .pu (.sl 0 58 (w6 m))), (2, fV f), (15, .pu (.sl 0 58 (w6 l))), (16, iv .i64 (w6 l).length), (17, iv .i64 i.1)], []⟩) (fun i => l.length - i.1) ⟨0, by simp [s7]⟩ ?_ ?_ (fun i => ?_))
  ·exact zW
  ·exact zW
  refine Y30 ?_;refine Cq ?_ ?_
  ·intro h1
   have hi : i.1 < l.length := by rw [A2] at h1; simpa using h1
   have hi2 : i.1 < m.length := by omega
   have htk := N2 (φ := φ) hi hi2
   rw [i.2, Bool.true_and] at htk
   refine Y57 ?_;refine b5 (j6 SS (h0 := by omega) (hp := aF3 hi)) ?_;refine yL ?_;refine a8 SS 8 ?_;refine yA ?_;refine yS ?_;refine a6 [8] ?_;refine Y32 ?_;refine b5 (j6 SS (h0 := by omega) (hp := aF3 hi2)) ?_;refine yL ?_;refine a8 SS 9 ?_;refine yS ?_;refine a6 [9] ?_;refine Y40 ?_;refine yL ?_;refine b5 (p6 (fun _ => h i.1 hi hi2) (he := he)) ?_;refine yQ ?_;refine Y0 ?_;refine Cq ?_ ?_
   ·intro h2
    have hf : s7 φ l m = false := N3 (i := i.1 + 1) (by rw [htk]; simpa using h2)
    refine Y9 ?_;refine Rq ?_;exact l7 hf.symm
   ·intro h2
    have hnext : s7 φ (l.take (i.1 + 1)) (m.take (i.1 + 1)) = true := by rw [htk]; simpa using h2
    refine Y52 ?_
    refine ⟨⟨i.1 + 1, hnext⟩, by show l.length - (i.1 + 1) < l.length - i.1; omega, k7 ?_ ?_⟩
    ·exact zE
    ·exact zH
  ·intro h1
   have hf : s7 φ l m = true := by
    have := i.2
    rwa [List.take_of_length_le (by rw [A2] at h1; simp at h1; omega), List.take_of_length_le (by rw [A2] at h1; simp at h1; omega)] at this
   refine Tri.exit ?_;refine Y9 ?_;refine Rq ?_;exact l7 hf.symm
theorem ca4 : FCall Tryz.prog G 243 [.pu (.sl 0 28 []), .pu (.sl 0 28 [])] (bv true) := by
 refine Fq 26 Tryz.func243 ?_;intro w0 M ρ0 D0
 refine Y48 ?_;refine yC ?_;refine yM ?_;refine yC ?_;refine Y53 ?_;refine Cq ?_ ?_
 ·intro h0;exfalso
  simp at h0
 ·intro h0
  refine Y72 ?_;refine Y38 ?_;refine Tri.block (Tri.loopW (σ := Unit) (fun i => ⟨[(0, .pu (.sl 0 28 [])), (12, iv .i64 0), (13, iv .i64 0)], []⟩) (fun i => 0) () ?_ ?_ (fun i => ?_))
  ·exact zW
  ·exact zW
  refine Y30 ?_;refine Cq ?_ ?_
  ·intro h1;exfalso
   simp at h1
  ·intro h1
   refine Tri.exit ?_;refine Y9 ?_;refine Rq ?_;exact VImp.refl _
theorem bF5 (x y : Bool) : R9 Tryz.prog .eql 4 (bv x) (bv y) = some (bv (x == y)) := by
 have hu : Tryz.prog.underlying 4 = some .bool := by kernel_rfl
 simp [R9, bv, hu]
instance : TyV Tryz.prog 56 (.pu bL1) := inferInstanceAs (TyV Tryz.prog 56 (.pu (.agg _ _)))
theorem bo3 : FCall Tryz.prog G 224 [.pu bL1, .pu bL1] (bv true) := by
 refine Fq 24 Tryz.func224 ?_;intro w0 M ρ0 D0
 refine Y65 ?_;refine yB ?_;refine a6 [2, 3] ?_;refine Y22 ?_;refine Y8 ?_;refine Dq ca4 ?_;refine Y42 ?_;refine q8 zG (z7 SS (h := bF5 _ _)) ?_;refine yN ?_;refine Y42 ?_;refine Y21 ?_;refine Y2 ?_;refine Rq ?_;exact VImp.refl _
mutual
def wfY : Ty → Prop
 | .mk _ _ r ks => r.length = 32 ∧ bV1 ks
def bV1 : List Ty → Prop
 | [] => True
 | t :: ts => wfY t ∧ bV1 ts
end
mutual
theorem bv2 {D : Nat → Nat → Prop} {w : World} : ∀ {t : Ty} {x : List Value}, PR Tryz.prog D w (tyc t) x → wfY t
 | .mk k n r ks, x, h => by
  obtain ⟨_, h⟩ := W4 h
  obtain ⟨_, _, _, h⟩ := l6 h
  obtain ⟨_, _, _, h⟩ := l6 h
  obtain ⟨⟨_, h1⟩, _, _, h⟩ := l6 h
  obtain ⟨⟨_, h2⟩, _⟩ := l6 h
  obtain ⟨_, _, h2⟩ := aE9 h2
  exact ⟨U7 h1, bu9 h2⟩
theorem bu9 {D : Nat → Nat → Prop} {w : World} : ∀ {ks : List Ty} {cs : List (Nat × TypeId)} {x : List Value}, PRs Tryz.prog D w cs (w6 ks) x → bV1 ks
 | [], _, _, _ => trivial
 | p :: ps, _, _, h => by
  obtain ⟨⟨_, h1⟩, _, _, h2⟩ := l6 h
  exact ⟨bv2 h1, bu9 h2⟩
end
mutual
def y9 : Ty → Nat
 | .mk _ _ _ ks => 1 + F1 ks
def F1 : List Ty → Nat
 | [] => 0
 | p :: ps => y9 p + F1 ps
end
theorem bl7 (p : Ty) : 1 ≤ y9 p := by cases p; simp [y9]
theorem ae9 : ∀ {ks : List Ty} {i : Nat} (h : i < ks.length), y9 ks[i] ≤ F1 ks
 | p :: ps, 0, _ => by simp [F1]
 | p :: ps, i + 1, h => by
  have := ae9 (ks := ps) (i := i) (by simpa using h)
  simp [F1]; omega
theorem R6 : ∀ (ks : List Ty), ks.length ≤ F1 ks
 | [] => by simp [F1]
 | p :: ps => by
  have := R6 ps
  have := bl7 p
  simp [F1]; omega
theorem at1 : ∀ l m : List Ty, Q0 l m = s7 G9 l m
 | [], [] => by simp [Q0, s7]
 | [], _ :: _ => by simp [Q0, s7]
 | _ :: _, [] => by simp [Q0, s7]
 | a :: l, b :: m => by simp only [Q0, s7, at1 l m]
theorem by0 (l m : List Ty) (hl : l.length < 2^40) (hm : m.length < 2^40) (h : ∀ i (h1 : i < l.length) (h2 : i < m.length), FCall Tryz.prog G 171 [.pu (tyc l[i]), .pu (tyc m[i])] (bv (G9 l[i] m[i]))) :
  FCall Tryz.prog G 168 [.pu (.sl 0 58 (w6 l)), .pu (.sl 0 58 (w6 m))] (bv (Q0 l m)) := by
 refine Fq 8 Tryz.func168 ?_;intro w0 M ρ0 D0
 refine Y20 ?_;refine Y32 ?_;refine Dq (bO6 171 (by kernel_rfl) G9 l m hl hm h) ?_;refine Y2 ?_;refine Rq ?_;exact l7 (by rw [at1])
theorem aG5 : ∀ (N : Nat) (p q : Ty), y9 p ≤ N → N < 2^40 → y9 q < 2^40 → FCall Tryz.prog G 171 [.pu (tyc p), .pu (tyc q)] (bv (G9 p q)) := by
 intro N
 induction N with
 | zero => intro p q h; cases p; simp [y9] at h
 | succ N ih =>
 intro p q hp hN hq
 obtain ⟨k, n, r, ks⟩ := p
 obtain ⟨k', n', r', ks'⟩ := q
 simp only [y9] at hp hq
 have hlen := R6 ks
 have hlen' := R6 ks'
 refine Fq 38 Tryz.func171 ?_;intro w0 M ρ0 D0
 refine Tri.fact (i := 0) rfl (fun D w x h => bv2 h) (fun hr => ?_);refine Tri.fact (i := 1) rfl (fun D w x h => bv2 h) (fun hr' => ?_)
 simp only [wfY] at hr hr'
 refine Y65 ?_;refine yB ?_;refine a6 [2, 3] ?_;refine Y14 ?_;refine Y3 ?_;refine yI ?_;refine Y42 ?_;refine Y21 ?_;refine Y42 ?_;refine q8 zG (z7 SS (h := x5 (hr.1.trans hr'.1.symm))) ?_;refine yN ?_;refine Y42 ?_;refine q8 zG (o6 (fun _ => by0 ks ks' (by omega) (by omega) (fun i h1 h2 => ih _ _ (by have := ae9 h1; omega) (by omega) (by have := ae9 h2; omega)))) ?_;refine yN ?_;refine Y42 ?_;refine q8 zG (o6 (fun _ => bo3)) ?_;refine yN ?_;refine Y2 ?_;refine Rq ?_;exact l7 (by simp only [G9, Bool.and_true])
theorem F_c (a b : Ty) : FCall Tryz.prog G 28 [.pu (tyc a), .pu (tyc b)] (.pu (tyc (.mk 3 0 Z32 [a, b]))) := by
 refine Fq 9 Tryz.func28 ?_;intro w0 M ρ0 D0
 refine Y65 ?_;refine a8 SS 4 ?_;refine a6 [2, 3, 4] ?_;refine Y43 ?_;refine yZ ?_;refine Y49 ?_;refine Rc ?_;exact ToPu.imp (by repeat constructor)
theorem bY2 : FCall Tryz.prog G 227 [] (.pu (tyc v7)) := by
 refine Fq 2 Tryz.func227 ?_;intro w0 M ρ0 D0
 refine yR ?_;refine a8 SS 0 ?_;refine a6 [0] ?_;refine yR ?_;refine Dq (V_c 99) ?_;refine Y10 ?_;refine Rc ?_;exact ToPu.imp (by repeat constructor)
end
variable (bs : List Int) [hz : Bz bs]
theorem O3 (s : Sd) {l k : Int} [h : Bd s l k] (hk : k ≤ 100000 := by decide) : HCall Tryz.prog gL 39 [.ptr 950 [] 171, iv .i64 0] [] (stO bs s) (.pu (tyc (f6 bs s).1.ty)) (stO bs (f6 bs s).2) [] := by
 by_cases hc : (a4 bs 6 s).1 < 4
 ·have e : f6 bs s = (.b, (a4 bs 6 s).2) := by simp [f6, hc]
  rw [e]
  refine HCall.of_triD tbl 60 [950] Tryz.func39 rfl rfl rfl fun w0 M ρ0 D0 => ?_
  refine yR ?_;refine a8 SS 4 ?_;refine a6 [4] ?_;refine Y1 ?_;refine a9 (n4 bs 6 s (by omega)) ?_;refine Y2 ?_;refine Tri.block ?_;refine Y59 ?_;refine Cq ?_ ?_
  ·intro h0;exfalso
   simp at h0
  ·intro h0
   refine Y59 ?_;refine Cq ?_ ?_
   ·intro h1;exfalso
    simp at h1
   ·intro h1
    refine Y59 ?_;refine Cq ?_ ?_
    ·intro h2;exfalso
     simp at h2
    ·intro h2
     refine Y46 ?_;refine Cq ?_ ?_
     ·intro h3
      refine Y51 ?_;refine Dq (D_c (b7 1) []) ?_;refine Y10 ?_;refine Rcz ?_;exact VImp.refl _
     ·intro h3;exfalso
      have := of_decide_eq_false h3
      omega
 ·have e : f6 bs s = (.n, (a4 bs 6 s).2) := by simp [f6, hc]
  rw [e]
  refine HCall.of_triD tbl 60 [950] Tryz.func39 rfl rfl rfl fun w0 M ρ0 D0 => ?_
  refine yR ?_;refine a8 SS 4 ?_;refine a6 [4] ?_;refine Y1 ?_;refine a9 (n4 bs 6 s (by omega)) ?_;refine Y2 ?_;refine Tri.block ?_;refine Y59 ?_;refine Cq ?_ ?_
  ·intro h0;exfalso
   simp at h0
  ·intro h0
   refine Y59 ?_;refine Cq ?_ ?_
   ·intro h1;exfalso
    simp at h1
   ·intro h1
    refine Y59 ?_;refine Cq ?_ ?_
    ·intro h2;exfalso
     simp at h2
    ·intro h2
     refine Y46 ?_;refine Cq ?_ ?_
     ·intro h3;exfalso
      have := of_decide_eq_true h3
      omega
     ·intro h3
      refine Tri.skip ?_;refine yR ?_;refine Dq N_c ?_;refine Y10 ?_;refine Rcz ?_;exact VImp.refl _
theorem aO3 (s : Sd) {l k : Int} [h : Bd s l k] (hk : k ≤ 10000 := by decide) : HCall Tryz.prog gL 39 [.ptr 950 [] 171, iv .i64 1] [] (stO bs s) (.pu (tyc (v4 bs s).1.ty)) (stO bs (v4 bs s).2) [] := by
 have hb := p8 bs s (n := 6) (by decide)
 refine HCall.of_triD tbl 60 [950] Tryz.func39 rfl rfl rfl fun w0 M ρ0 D0 => ?_
 refine yR ?_;refine a8 SS 4 ?_;refine a6 [4] ?_;refine Y1 ?_;refine a9 (n4 bs 6 s (by omega)) ?_;refine Y2 ?_;refine Tri.block ?_;refine Y59 ?_;refine Cq ?_ ?_
 ·intro h0
  have e : v4 bs s = (.li (f6 bs (a4 bs 6 s).2).1, (f6 bs (a4 bs 6 s).2).2) := by simp at h0; simp [v4, h0]
  rw [e];refine Y51 ?_;refine Y19 ?_;refine yI ?_;refine a9 (O3 bs (a4 bs 6 s).2 (by omega)) ?_;refine yZ ?_;refine Dq (D_c (b7 2) [_]) ?_;refine Y29 ?_;refine Rcz ?_;exact VImp.refl _
 ·intro h0
  refine Y59 ?_;refine Cq ?_ ?_
  ·intro h1
   have e : v4 bs s = (.op (f6 bs (a4 bs 6 s).2).1, (f6 bs (a4 bs 6 s).2).2) := by simp at h1; simp [v4, h1]
   rw [e];refine Y51 ?_;refine Y19 ?_;refine yI ?_;refine a9 (O3 bs (a4 bs 6 s).2 (by omega)) ?_;refine yZ ?_;refine Dq (D_c (b7 4) [_]) ?_;refine Y29 ?_;refine Rcz ?_;exact VImp.refl _
  ·intro h1
   refine Y59 ?_;refine Cq ?_ ?_
   ·intro h2
    have e : v4 bs s = (.pa (f6 bs (a4 bs 6 s).2).1 (f6 bs (f6 bs (a4 bs 6 s).2).2).1, (f6 bs (f6 bs (a4 bs 6 s).2).2).2) := by simp at h2; simp [v4, h2]
    rw [e];refine Y51 ?_;refine Y19 ?_;refine yI ?_;refine a9 (O3 bs (a4 bs 6 s).2 (by omega)) ?_;refine Y19 ?_;refine yI ?_;refine a9 (O3 bs (f6 bs (a4 bs 6 s).2).2 (by omega)) ?_;refine yZ ?_;refine Dq (D_c (b7 3) [_, _]) ?_;refine Y29 ?_;refine Rcz ?_;exact VImp.refl _
   ·intro h2
    refine Y46 ?_;refine Cq ?_ ?_
    ·intro h3
     have e : v4 bs s = (.ba .b, (a4 bs 6 s).2) := by simp at h0 h1 h2 h3; simp [v4, h0, h1, h2, h3]
     rw [e];refine Y51 ?_;refine Dq (D_c (b7 1) []) ?_;refine Y10 ?_;refine Rcz ?_;exact VImp.refl _
    ·intro h3
     have e : v4 bs s = (.ba .n, (a4 bs 6 s).2) := by simp at h0 h1 h2 h3; simp [v4, h0, h1, h2]; omega
     rw [e];refine Tri.skip ?_;refine yR ?_;refine Dq N_c ?_;refine Y10 ?_;refine Rcz ?_;exact VImp.refl _
end
section
abbrev mkO (bs : List Int) (s : Sd) (l : Int) : List (Nat × Ob) := [(951, .var 174 (.agg 174 [.ptr 950 [] 171, iv .i64 l])), (950, .var 171 (.pu (stP bs s)))]
structure Vk (v : List Ty) (n : Nat) : Prop where
 len : v.length + 4 * n ≤ 1000
 sm : ∀ u ∈ v, y9 u ≤ 3
theorem Vk.app {v w : List Ty} {n : Nat} (h : Vk v (n + 1)) (hw : w.length ≤ 4) (hs : ∀ u ∈ w, y9 u ≤ 3) : Vk (v ++ w) n := ⟨by have := h.len; simp; omega, fun u hu => by
 rcases List.mem_append.1 hu with hu | hu
 ·exact h.sm u hu
 ·exact hs u hu⟩
theorem Vk.less {v : List Ty} {n : Nat} (h : Vk v (n + 1)) : Vk v n := ⟨by have := h.len; omega, h.sm⟩
theorem az1 (x : BT) : y9 x.ty ≤ 3 := by cases x <;> simp [BT.ty, n6, y9, F1]
theorem az2 (x : BT) : y9 x.ty = 1 := by cases x <;> simp [BT.ty, n6, y9, F1]
theorem N6 (t : TT) : y9 t.ty ≤ 3 := by
 cases t with
 | ba x => exact az1 x
 | li x => simp [TT.ty, y9, F1, az2 x]
 | op x => simp [TT.ty, y9, F1, az2 x]
 | pa x y => simp [TT.ty, y9, F1, az2 x, az2 y]
 | fn x => simp [TT.ty, n6, y9, F1, az2 x]
theorem P7 (a b : List Tm) {lo : Nat} : l5 lo (a ++ b) = l5 lo a ++ l5 lo b := by simp [o8]
theorem bZ4 {v : List Ty} {t : Ty} {i : Nat} (hi : i < v.length) (h : G9 v[i] t = true) : knM v t (i + 1) = knM v t i ++ [vaM ((v.length : Int) - 1 - i)] := by
 simp [knM, List.range_succ, List.filterMap_append, hi, h]
theorem cd9 {v : List Ty} {t : Ty} {i : Nat} (hi : i < v.length) (h : G9 v[i] t = false) : knM v t (i + 1) = knM v t i := by
 simp [knM, List.range_succ, List.filterMap_append, hi, h]
theorem bC6 (v : List Ty) (t : Ty) (i : Nat) : (knM v t i).length ≤ i := by
 unfold knM
 exact Nat.le_trans (List.length_filterMap_le _ _) (by simp)
variable (bs : List Int) [hz : Bz bs]
theorem bx1 (s : Sd) (l : Int) {k : Int} [h : Bd s l k] (hk : k ≤ 1000 := by decide) : HCall Tryz.prog gL 174 [.ptr 951 [] 174] [] (mkO bs s l) (.pu (tyc (P9 bs s).1.ty)) (mkO bs (P9 bs s).2 l) [] := by
 refine HCall.of_triD tbl 20 [950, 951] Tryz.func174 rfl rfl rfl fun w0 M ρ0 D0 => ?_
 refine yR ?_;refine a8 SS 2 ?_;refine a6 [2] ?_;refine Y55 ?_;refine a9 (L4 bs 5 s (by omega)) ?_;refine Y0 ?_;refine Cq ?_ ?_
 ·intro h0
  have e : P9 bs s = (.fn (f6 bs (c6 bs 5 s).2).1, (f6 bs (c6 bs 5 s).2).2) := by simp [P9, h0]
  rw [e];refine yR ?_;refine Dq N_c ?_;refine yM ?_;refine Y13 ?_;refine a9 (O3 bs (c6 bs 5 s).2 (by omega)) ?_;refine Dq (F_c n6 _) ?_;refine Y29 ?_;refine Rcz ?_;exact VImp.refl _
 ·intro h0
  have e : P9 bs s = v4 bs (c6 bs 5 s).2 := by simp [P9, h0]
  rw [e];refine Tri.skip ?_;refine Y55 ?_;refine a9 (aO3 bs (c6 bs 5 s).2 (by omega)) ?_;refine Y10 ?_;refine Rcz ?_;exact VImp.refl _
theorem bD8 (v : List Ty) (hvl : v.length ≤ 1020) (hvs : ∀ u ∈ v, y9 u ≤ 3) (t : Ty) (ht : y9 t ≤ 3) (s : Sd) (l : Int) {k : Int} [h : Bd s l k] (hk : k ≤ 1000 := by decide) : HCall Tryz.prog gL 173 [.ptr 951 [] 174, .pu (tyc t), .pu (.sl 0 58 (w6 v))] [] (mkO bs s l) (.tup [.pu (tmc 0 (r6 bs v t s).1.1), bv (r6 bs v t s).1.2]) (mkO bs (r6 bs v t s).2 l) [] := by
 have hyl := A2 v
 refine HCall.of_triD tbl 45 [950, 951] Tryz.func173 rfl rfl rfl fun w0 M ρ0 D0 => ?_
 refine yR ?_;refine o9 SS 4 ?_;refine a8 SS 6 ?_;refine yB ?_;refine a6 [4, 6] ?_;refine Y48 ?_;refine Y38 ?_;refine Tri.block (Tri.loopW (σ := {i : Nat // i ≤ v.length}) (fun i => ⟨[(0, .ptr 951 [] 174), (2, .pu (.sl 0 58 (w6 v))), (4, .ptr 4 [] 58), (6, .ptr 6 [] 32), (8, .ow 0 32 (l5 0 (knM v t i.1))), (11, .pu (.sl 0 58 (w6 v))), (12, iv .i64 (w6 v).length), (13, iv .i64 i.1)], [(4, .var 58 (.pu (tyc t))), (6, .var 32 (.pu (tmc 0 S2)))] ++ mkO bs s l⟩) (fun i => v.length - i.1) ⟨0, Nat.zero_le _⟩ ?_ ?_ (fun i => ?_))
 ·exact zW
 ·exact zW
 refine Y30 ?_;refine Cq ?_ ?_
 ·intro h0
  have hi : i.1 < v.length := by have := of_decide_eq_true h0; omega
  refine Y57 ?_;refine b5 (j6 SS (h0 := by omega) (hp := aF3 hi)) ?_;refine yL ?_;refine a8 SS 10 ?_;refine yA ?_;refine yS ?_;refine a6 [10] ?_;refine Y43 ?_;refine Dq (aG5 _ v[i.1] t (Nat.le_refl _) (by have := hvs _ (List.getElem_mem hi); omega) (by omega)) ?_;refine Y0 ?_;refine Cq ?_ ?_
  ·intro h1
   have hn := bZ4 hi h1
   have hkl := bC6 v t i.1
   have e1 : IntKind.i64.wrap (IntKind.i64.wrap ((w6 v).length - 1) - i.1) = (v.length : Int) - 1 - i.1 := by rw [b4 (n := ((w6 v).length : Int) - 1) (by omega) (by omega), hyl, b4 (by omega) (by omega)]
   refine Y32 ?_;refine yC ?_;refine yI ?_;refine yM ?_;refine yI ?_;rw [e1];refine Dq (W3 _) ?_;refine yZ ?_;refine by5 8 ?_ ?_
   ·rw [a7]; simp; omega
   refine Y12 ?_;refine Y25 ?_
   refine ⟨⟨i.1 + 1, hi⟩, by show v.length - (i.1 + 1) < v.length - i.1; omega, k7 ?_ ?_⟩
   ·repeat (first | exact SubE.nil | refine SubE.cons rfl (by first | rfl | (rw [b4 (by omega) (by omega)]; rfl) | (first | (rw [hn, P7]; rfl) | (rw [hn]))) ?_)
   ·repeat (first | exact SubH.nil | refine SubH.cons rfl (by first | rfl | (rw [b4 (by omega) (by omega)]; rfl) | (first | (rw [hn, P7]; rfl) | (rw [hn]))) ?_)
  ·intro h1
   have hn := cd9 hi (by simpa using h1)
   refine Y52 ?_
   refine ⟨⟨i.1 + 1, hi⟩, by show v.length - (i.1 + 1) < v.length - i.1; omega, k7 ?_ ?_⟩
   ·repeat (first | exact SubE.nil | refine SubE.cons rfl (by first | rfl | (rw [b4 (by omega) (by omega)]; rfl) | (first | (rw [hn, P7]; rfl) | (rw [hn]))) ?_)
   ·repeat (first | exact SubH.nil | refine SubH.cons rfl (by first | rfl | (rw [b4 (by omega) (by omega)]; rfl) | (first | (rw [hn, P7]; rfl) | (rw [hn]))) ?_)
 ·intro h0
  have hi : i.1 = v.length := by have := of_decide_eq_false h0; have := i.2; omega
  rw [hi]
  have hkl := bC6 v t v.length
  have hkt := a7 (lo := 0) (knM v t v.length)
  refine Tri.exit ?_;refine Y1 ?_;refine yC ?_;refine Y53 ?_;refine Cq ?_ ?_
  ·intro h2
   have e : r6 bs v t s = ((S2, false), s) := by
    have h9 : ((l5 0 (knM v t v.length)).length : Int) = 0 := eq_of_beq h2
    unfold r6
    rw [if_pos (by omega)]
   rw [e];refine yR ?_;refine yT ?_;refine yS ?_;refine Y62 ?_;exact Tri.ret ⟨.inr rfl, K8 rfl n9 (ToPu.imp (by repeat constructor)) b6 (VImp.refl _), zO⟩
  ·intro h2
   have hne : (knM v t v.length).length ≠ 0 := by intro e; rw [hkt, e] at h2; simp at h2
   have e : r6 bs v t s = (((knM v t v.length).getD (a4 bs (knM v t v.length).length s).1.toNat S2, true), (a4 bs (knM v t v.length).length s).2) := by unfold r6; rw [if_neg hne]
   rw [e]
   have hb := p8 bs s (n := ((knM v t v.length).length : Int)) (by omega)
   have hp : (l5 0 (knM v t v.length))[(a4 bs (knM v t v.length).length s).1.toNat]? = some (tmc 0 ((knM v t v.length).getD (a4 bs (knM v t v.length).length s).1.toNat S2)) := by
    have hlt : (a4 bs (knM v t v.length).length s).1.toNat < (knM v t v.length).length := by omega
    rw [B6 hlt, List.getD_eq_getElem?_getD, List.getElem?_eq_getElem hlt]
    rfl
   refine Tri.skip ?_;refine Y32 ?_;refine Y13 ?_;refine yM ?_;refine yC ?_;rw [hkt];refine a9 (n4 bs _ s (by omega)) ?_;refine b5 (j6 SS (h0 := hb.1) (hp := hp)) ?_;refine yL ?_;refine yS ?_;refine Y62 ?_;exact Tri.ret ⟨.inr rfl, K8 rfl n9 (VImp.refl _) b6 (VImp.refl _), zO⟩
theorem bT2 {t : TT} {k n : Int} {r : List Int} {ks : List Ty} (h : t.ty = .mk k n r ks) (hk : k = 3) : ∃ x, t = .fn x ∧ n = 0 ∧ r = Z32 ∧ ks = [n6, x.ty] := by
 subst hk
 rcases t with (_ | _) | x | x | ⟨x, y⟩ | x <;> simp [TT.ty, BT.ty, n6] at h
 obtain ⟨rfl, rfl, rfl⟩ := h
 exact ⟨x, rfl, rfl, rfl, rfl⟩
theorem bv5 {t : TT} {k n : Int} {r : List Int} {ks : List Ty} (h : t.ty = .mk k n r ks) (hk : k = 2) : t = .ba .n := by
 subst hk
 rcases t with (_ | _) | x | x | ⟨x, y⟩ | x <;> simp [TT.ty, BT.ty, n6] at h ⊢
theorem be7 {t : TT} {k n : Int} {r : List Int} {ks : List Ty} (h : t.ty = .mk k n r ks) (hk : r = b7 1) : t = .ba .b := by
 subst hk
 rcases t with (_ | _) | x | x | ⟨x, y⟩ | x <;> simp [TT.ty, BT.ty, n6, b7, Z32, List.replicate] at h ⊢
theorem bJ1 {t : TT} {k n : Int} {r : List Int} {ks : List Ty} (h : t.ty = .mk k n r ks) (hk : r = b7 2) : ∃ x, t = .li x ∧ k = 4 ∧ n = 0 ∧ ks = [x.ty] := by
 subst hk
 rcases t with (_ | _) | x | x | ⟨x, y⟩ | x <;> simp [TT.ty, BT.ty, n6, b7, Z32, List.replicate] at h
 obtain ⟨rfl, rfl, rfl⟩ := h
 exact ⟨x, rfl, rfl, rfl, rfl⟩
theorem be6 {t : TT} {k n : Int} {r : List Int} {ks : List Ty} (h : t.ty = .mk k n r ks) (hk : r = b7 3) : ∃ x y, t = .pa x y ∧ k = 4 ∧ n = 0 ∧ ks = [x.ty, y.ty] := by
 subst hk
 rcases t with (_ | _) | x | x | ⟨x, y⟩ | x <;> simp [TT.ty, BT.ty, n6, b7, Z32, List.replicate] at h
 obtain ⟨rfl, rfl, rfl⟩ := h
 exact ⟨x, y, rfl, rfl, rfl, rfl⟩
theorem bW1 {t : TT} {k n : Int} {r : List Int} {ks : List Ty} (h : t.ty = .mk k n r ks) (hk : r = b7 4) : ∃ x, t = .op x ∧ k = 4 ∧ n = 0 ∧ ks = [x.ty] := by
 subst hk
 rcases t with (_ | _) | x | x | ⟨x, y⟩ | x <;> simp [TT.ty, BT.ty, n6, b7, Z32, List.replicate] at h
 obtain ⟨rfl, rfl, rfl⟩ := h
 exact ⟨x, rfl, rfl, rfl, rfl⟩
theorem be5 {t : TT} {k n : Int} {r : List Int} {ks : List Ty} (h : t.ty = .mk k n r ks) (h3 : ¬ k = 3) (h2 : ¬ k = 2) (hb : ¬ r = b7 1) (hp : ¬ r = b7 3) : (∃ x, t = .li x ∧ r = b7 2) ∨ ∃ x, t = .op x ∧ r = b7 4 := by
 rcases t with (_ | _) | x | x | ⟨x, y⟩ | x <;> simp [TT.ty, BT.ty, n6] at h
 ·exact absurd h.1.symm h2
 ·exact absurd h.2.2.1.symm hb
 ·exact .inl ⟨x, rfl, h.2.2.1.symm⟩
 ·exact .inr ⟨x, rfl, h.2.2.1.symm⟩
 ·exact absurd h.2.2.1.symm hp
 ·exact absurd h.1.symm h3
theorem bv4 {t : TT} {k n : Int} {r : List Int} {ks : List Ty} (h : t.ty = .mk k n r ks) : r.length = 32 := by
 rcases t with (_ | _) | x | x | ⟨x, y⟩ | x <;> simp [TT.ty, BT.ty, n6] at h
 all_goals (obtain ⟨_, _, rfl, _⟩ := h; rfl)
theorem aR0 {v : List Ty} {t : Ty} {base : Sd → Tm × Sd} {s : Sd} (h : ¬ ((r6 bs v t s).1.2 = true ∧ (c6 bs 3 (r6 bs v t s).2).1 = false)) :
  S5 bs v t base s = base (if (r6 bs v t s).1.2 = true then (c6 bs 3 (r6 bs v t s).2).2 else (r6 bs v t s).2) := by
 unfold S5
 split
 ·rename_i h1
  rw [if_neg (fun h2 => h ⟨h1, h2⟩)]
 ·rfl
set_option maxHeartbeats 1000000 in
theorem bh7 (t : TT) (v : List Ty) (hvl : v.length ≤ 1020) (hvs : ∀ u ∈ v, y9 u ≤ 3) (s : Sd) (l : Int) {k : Int} [h : Bd s l k] (hk : k ≤ 900) (hk2 : k ≤ 800 ∨ ∃ x, t = .ba x)
  (ih : (∀ x, t ≠ .ba x) → ∀ (x : BT) (w : List Ty), w.length ≤ v.length + 1 → (∀ u ∈ w, y9 u ≤ 3) → ∀ (s : Sd) (k : Int) [Bd s l k], k ≤ 850 → HCall Tryz.prog gL 172 [.ptr 951 [] 174, .pu (tyc x.ty), .pu (.sl 0 58 (w6 w))] [] (mkO bs s l) (.pu (tmc 0 (B0 bs x w s).1)) (mkO bs (B0 bs x w s).2 l) []) :
  HCall Tryz.prog gL 172 [.ptr 951 [] 174, .pu (tyc t.ty), .pu (.sl 0 58 (w6 v))] [] (mkO bs s l) (.pu (tmc 0 (K5 bs t v s).1)) (mkO bs (K5 bs t v s).2 l) [] := by
 obtain ⟨k', n', r', ks', hty⟩ : ∃ k n r ks, t.ty = .mk k n r ks := by rcases t.ty with ⟨a, b, c, d⟩; exact ⟨a, b, c, d, rfl⟩
 have hrl := bv4 hty
 have hs1 : (b7 1).length = 32 := by decide
 have hs3 : (b7 3).length = 32 := by decide
 have hh := bD8 bs v hvl hvs t.ty (N6 t) s l (by omega)
 have hb1 : Bd (r6 bs v t.ty s).2 l (k + 1) := inferInstance
 have hb2 : Bd (if (r6 bs v t.ty s).1.2 = true then (c6 bs 3 (r6 bs v t.ty s).2).2 else (r6 bs v t.ty s).2) l (k + 2) := by
  split
  ·exact Bd.mono (inferInstance : Bd (c6 bs 3 (r6 bs v t.ty s).2).2 l (k + 1 + 1)) (by omega)
  ·exact Bd.mono hb1 (by omega)
 have hks := aR0 bs (v := v) (t := t.ty) (base := S0 bs v t) (s := s)
 have hk1 : (r6 bs v t.ty s).1.2 = true → (c6 bs 3 (r6 bs v t.ty s).2).1 = false → K5 bs t v s = ((r6 bs v t.ty s).1.1, (c6 bs 3 (r6 bs v t.ty s).2).2) := fun h1 h2 => by
  unfold K5 S5
  rw [if_pos h1, if_pos h2]
 rw [hty] at hh ⊢
 refine HCall.of_triD tbl 91 [950, 951] Tryz.func172 rfl rfl rfl fun w0 M ρ0 D0 => ?_
 have hle := hks
 rw [hty] at hb1 hb2 hks hk1
 generalize hg : r6 bs v (.mk k' n' r' ks') s = q at hh hb1 hb2 hks hk1
 obtain ⟨⟨x, b⟩, s1⟩ := q
 simp only at hh hb1 hb2 hks hk1
 refine yR ?_;refine o9 SS 4 ?_;refine a8 SS 6 ?_;refine a6 [4, 6] ?_;refine Y40 ?_;refine yM ?_;refine a9 (hh) ?_;refine Y58 ?_;refine a8 SS 7 ?_;refine Y73 ?_;refine a6 [7] ?_;refine Y1 ?_;refine Y28 ?_;refine q8 zG (T8 SS) ?_;refine Y7 ?_;refine I0 zG (f := 115) (args := [.ptr 950 [] 171, iv .i64 3]) (HR := []) (H := stO bs s1) (H' := stO bs (if b = true then (c6 bs 3 s1).2 else s1)) (v := bv (c6 bs 3 s1).1) (fun e => ?_) (fun e => ?_) ?_
 ·have e' : b = true := by simpa using e
  rw [if_pos e'];exact L4 bs 3 s1 (by omega)
 ·have e' : ¬ b = true := by simpa using e
  exact .cons rfl (by simp [e']) .nil
 refine xQ ?_;refine yN ?_;refine Y0 ?_;refine Cq ?_ ?_
 ·intro h0
  have hb3 : b = true ∧ (c6 bs 3 s1).1 = false := by simpa using h0
  have e := hk1 hb3.1 hb3.2
  rw [e, if_pos hb3.1];refine Y61 ?_;refine Rcz ?_;exact VImp.refl _
 ·intro h0
  have hb3 : ¬ (b = true ∧ (c6 bs 3 s1).1 = false) := by intro hh; simp [hh.1, hh.2] at h0
  have hleaf : K5 bs t v s = S0 bs v t (if b = true then (c6 bs 3 s1).2 else s1) := by unfold K5; rw [hty]; exact hks hb3
  clear hks hk1 hh
  generalize (if b = true then (c6 bs 3 s1).2 else s1) = s2 at hb2 hleaf ⊢
  refine Y26 ?_;refine Y37 ?_;refine Y2 ?_;refine Cq ?_ ?_
  ·intro h1
   obtain ⟨x, rfl, rfl, rfl, rfl⟩ := bT2 hty (by simpa using h1)
   have hk3 : k ≤ 800 := hk2.resolve_right fun ⟨y, hy⟩ => by cases hy
   rw [hleaf];refine Y1 ?_;refine Y8 ?_;refine b5 (j6 SS (h0 := by omega) (hp := (rfl : (w6 [n6, x.ty])[1]? = some _))) ?_;refine yL ?_;refine yM ?_;refine Y8 ?_;refine b5 (j6 SS (h0 := by omega) (hp := (rfl : (w6 [n6, x.ty])[0]? = some _))) ?_;refine Y66 ?_;refine Dq (F7 v [n6] (by omega) (by simp)) ?_;refine a9 (ih (fun y hy => by cases hy) x (v ++ [n6]) (by simp) (fun u hu => by simp at hu; rcases hu with hu | rfl; exact hvs u hu; simp [n6, y9, F1]) s2 _ (by omega)) ?_;refine Dq (aA7 _) ?_;refine Y29 ?_;refine Rcz ?_;exact VImp.refl _
  ·intro h1
   refine Y37 ?_;refine Y2 ?_;refine Cq ?_ ?_
   ·intro h2
    obtain rfl := bv5 hty (by simpa using h2)
    rw [hleaf];refine Y55 ?_;refine a9 (n4 bs 4 s2 (by omega)) ?_;refine Dq (X5 _) ?_;refine Y10 ?_;refine Rcz ?_;exact VImp.refl _
   ·intro h2
    refine Y14 ?_;refine yG ?_;refine b5 (z7 SS (h := x5 (hrl.trans hs1.symm))) ?_;refine Y2 ?_;refine Cq ?_ ?_
    ·intro h3
     obtain rfl := be7 hty (by simpa using h3)
     rw [hleaf];refine Y51 ?_;refine yM ?_;refine Y13 ?_;refine a9 (n4 bs 2 s2 (by omega)) ?_;refine Dq (aW4 (b7 1) _ []) ?_;refine Y29 ?_;refine Rcz ?_;exact VImp.refl _
    ·intro h3
     refine Y14 ?_;refine yG ?_;refine b5 (z7 SS (h := x5 (hrl.trans hs3.symm))) ?_;refine Y2 ?_;refine Cq ?_ ?_
     ·intro h4
      obtain ⟨x, y, rfl, rfl, rfl, rfl⟩ := be6 hty (by simpa using h4)
      have hk3 : k ≤ 800 := hk2.resolve_right fun ⟨y, hy⟩ => by cases hy
      rw [hleaf];refine Y51 ?_;refine yM ?_;refine Y8 ?_;refine b5 (j6 SS (h0 := by omega) (hp := (rfl : (w6 [x.ty, y.ty])[0]? = some _))) ?_;refine yL ?_;refine yM ?_;refine a9 (ih (fun y hy => by cases hy) x v (by omega) hvs s2 _ (by omega)) ?_;refine yM ?_;refine Y8 ?_;refine b5 (j6 SS (h0 := by omega) (hp := (rfl : (w6 [x.ty, y.ty])[1]? = some _))) ?_;refine yL ?_;refine yM ?_;refine a9 (ih (fun y hy => by cases hy) y v (by omega) hvs (B0 bs x v s2).2 _ (by omega)) ?_;refine yZ ?_;refine Dq (aW4 (b7 3) 0 [_, _]) ?_;refine Y29 ?_;refine Rcz ?_;exact VImp.refl _
     ·intro h4
      have hr := be5 hty (by simpa using h1) (by simpa using h2) (by simpa using h3) (by simpa using h4)
      have hl2 : S0 bs v t s2 = (coM r' 0 [], s2) := by rcases hr with ⟨x, rfl, rfl⟩ | ⟨x, rfl, rfl⟩ <;> rfl
      rw [hleaf, hl2];refine Tri.skip ?_;refine Y14 ?_;refine Dq (aW4 r' 0 []) ?_;refine Y10 ?_;refine Rcz ?_;exact VImp.refl _
theorem bN1 (x : BT) (v : List Ty) (hvl : v.length ≤ 1020) (hvs : ∀ u ∈ v, y9 u ≤ 3) (s : Sd) (l : Int) {k : Int} [h : Bd s l k] (hk : k ≤ 900) :
  HCall Tryz.prog gL 172 [.ptr 951 [] 174, .pu (tyc x.ty), .pu (.sl 0 58 (w6 v))] [] (mkO bs s l) (.pu (tmc 0 (B0 bs x v s).1)) (mkO bs (B0 bs x v s).2 l) [] :=
 bh7 bs (.ba x) v hvl hvs s l hk (.inr ⟨x, rfl⟩) fun hn => absurd rfl (hn x)
theorem bC0 (t : TT) (v : List Ty) (hvl : v.length ≤ 1010) (hvs : ∀ u ∈ v, y9 u ≤ 3) (s : Sd) (l : Int) {k : Int} [h : Bd s l k] (hk : k ≤ 800) :
  HCall Tryz.prog gL 172 [.ptr 951 [] 174, .pu (tyc t.ty), .pu (.sl 0 58 (w6 v))] [] (mkO bs s l) (.pu (tmc 0 (K5 bs t v s).1)) (mkO bs (K5 bs t v s).2 l) [] :=
 bh7 bs t v (by omega) hvs s l (by omega) (.inl hk) fun _ x w hw hs s k _ hk => bN1 bs x w (by omega) hs s l (k := k) (by omega)
end
section
class Lt (l : Int) (n : Nat) : Prop where
 h : l ≤ n
class Ml (m : Mk) : Prop where
 h : ∀ t v a s l, (m.f t v a s l).2.2 ≤ l
instance (m : Mk) (n : Nat) (t : TT) (v : List Ty) (a : List AB) (s : Sd) (l : Int) [hm : Ml m] [h : Lt l n] : Lt (m.f t v a s l).2.2 n := ⟨Int.le_trans (hm.h t v a s l) h.h⟩
def w9 (a : List AB) : List Pu := a.map fun x => f5 x.ref
theorem as4 (a : List AB) : (w9 a).length = a.length := by simp [w9]
theorem ab9 (x : AB) : x.ref.length = 32 := by cases x <;> rfl
def ak1 (bs : List Int) (m : Mk) (n : Nat) : Prop := ∀ (t : TT) (v : List Ty) (a : List AB) (s : Sd) (l k : Int) [Bd s l k] [Lt l n], Vk v n → a.length + n ≤ 40 → k ≤ 0 →
 HCall Tryz.prog gL 111 [.ptr 951 [] 174, .pu (tyc t.ty), .pu (.sl 0 58 (w6 v)), .pu (.sl 0 28 (w9 a))] [] (mkO bs s l) (.pu (tmc 0 (m.f t v a s l).1)) (mkO bs (m.f t v a s l).2.1 (m.f t v a s l).2.2) []
variable (bs : List Int) [hz : Bz bs] (m : Mk) [hm : Mc m] [hml : Ml m] (n : Nat)
abbrev cc7 (v : List Ty) (a : List AB) : List (Nat × Ob) := [(4, .var 172 (.ptr 951 [] 174)), (6, .var 53 (.pu (.sl 0 58 (w6 v)))), (7, .var 54 (.pu (.sl 0 28 (w9 a))))]
theorem aa0 (H : ak1 bs m n) (v : List Ty) (a : List AB) (hv : Vk v n) (ha : a.length + n ≤ 40) (t : TT) (s : Sd) (l : Int) {k : Int} [h : Bd s l k] [hl : Lt l n] (hk : k ≤ 0) : HCall Tryz.prog gL 228 [.pu (tyc t.ty), .ptr 4 [] 172, .ptr 6 [] 53, .ptr 7 [] 54] (cc7 v a) (mkO bs s l) (.pu (tmc 0 (m.f t v a s l).1)) (mkO bs (m.f t v a s l).2.1 (m.f t v a s l).2.2) [] := by
 refine HCall.of_triD tbl 11 [950, 951, 4, 6, 7] Tryz.func228 rfl rfl rfl fun w0 M ρ0 D0 => ?_
 refine yR ?_;refine o9 SS 31 ?_;refine a8 SS 32 ?_;refine a6 [31, 32] ?_;refine Y43 ?_;refine yK ?_;refine yK ?_;refine a9 (H t v a s l k hv ha hk) ?_;refine Y10 ?_;refine Rcz ?_;exact VImp.refl _
set_option maxHeartbeats 2000000 in
theorem aH3 (H : ak1 bs m n) (t : TT) (v : List Ty) (a : List AB) (hv : Vk v (n + 1)) (ha : a.length + n ≤ 40) (s : Sd) (l : Int) {k : Int} [h : Bd s l k] [hl : Lt l n] (hk : k ≤ -300) :
  HCall Tryz.prog gL 179 [.ptr 951 [] 174, .pu (tyc t.ty), .pu (.sl 0 58 (w6 v)), .pu (.sl 0 28 (w9 a))] [] (mkO bs s l) (.pu (tmc 0 (m0 bs m t v a s l).1)) (mkO bs (m0 bs m t v a s l).2.1 (m0 bs m t v a s l).2.2) [] := by
 obtain ⟨k', n', r', ks', hty⟩ : ∃ k n r ks, t.ty = .mk k n r ks := by rcases t.ty with ⟨a, b, c, d⟩; exact ⟨a, b, c, d, rfl⟩
 have hrl := bv4 hty
 have hvl := hv.len
 have hv0 : Vk v n := hv.less
 have hs1 : (b7 1).length = 32 := by decide
 have hs2' : (b7 2).length = 32 := by decide
 have hs3' : (b7 3).length = 32 := by decide
 have hs4 : (b7 4).length = 32 := by decide
 have hb6 := p8 bs (a4 bs 9 s).2 (n := 6) (by decide)
 rw [hty]
 refine HCall.of_triD tbl 187 [950, 951] Tryz.func179 rfl rfl rfl fun w0 M ρ0 D0 => ?_
 refine yR ?_;refine Y75 ?_;refine o9 SS 6 ?_;refine o9 SS 7 ?_;refine a8 SS 8 ?_;refine a6 [4, 5, 6, 7, 8] ?_;refine Y35 ?_;refine Tri.block ?_;refine Y37 ?_;refine Y2 ?_;refine Cq ?_ ?_
 ·intro h0
  obtain ⟨x, rfl, rfl, rfl, rfl⟩ := bT2 hty (by simpa using h0)
  rw [show m0 bs m (.fn x) v a s l = (laM (m.f (.ba x) (v ++ [n6]) [] s l).1, (m.f (.ba x) (v ++ [n6]) [] s l).2) from rfl];refine Y5 ?_;refine Y8 ?_;refine b5 (j6 SS (h0 := by omega) (hp := (rfl : (w6 [n6, x.ty])[1]? = some _))) ?_;refine yL ?_;refine yK ?_;refine Y8 ?_;refine b5 (j6 SS (h0 := by omega) (hp := (rfl : (w6 [n6, x.ty])[0]? = some _))) ?_;refine Y66 ?_;refine Dq (F7 v [n6] (by omega) (by simp)) ?_;refine a9 (H (.ba x) (v ++ [n6]) [] s l k (hv.app (by simp) (by simp [n6, y9, F1])) (by simp; omega) (by omega)) ?_;refine Dq (aA7 _) ?_;refine Y29 ?_;refine Rcz ?_;exact VImp.refl _
 ·intro h0
  refine Y37 ?_;refine Y2 ?_;refine Cq ?_ ?_
  ·intro h1
   obtain rfl := bv5 hty (by simpa using h1)
   refine Y33 ?_;refine a9 (n4 bs 9 s (by omega)) ?_;refine Y0 ?_;refine Tri.block ?_;refine Y16 ?_;refine Cq ?_ ?_
   ·intro h2
    have e : m0 bs m (.ba .n) v a s l = (apM (deM (b7 21)) (m.f (.ba .n) v a (a4 bs 9 s).2 l).1, (m.f (.ba .n) v a (a4 bs 9 s).2 l).2) := by simp only [m0, if_pos (eq_of_beq h2)]
    rw [e];refine Y51 ?_;refine Dq (aK4 (b7 21)) ?_;refine yM ?_;refine Dq N_c ?_;refine a9 (aa0 bs m n H v a hv0 ha (.ba .n) (a4 bs 9 s).2 l (by omega)) ?_;refine Dq (ae3 _ _) ?_;refine Y10 ?_;refine Rcz ?_;exact VImp.refl _
   ·intro h2
    have g0 : ¬ (a4 bs 9 s).1 = 0 := by simpa using h2
    refine Y16 ?_;refine Cq ?_ ?_
    ·intro h3
     have e : m0 bs m (.ba .n) v a s l = (apM (apM (deM (b7 22)) (m.f (.ba .n) v a (a4 bs 9 s).2 l).1) (m.f (.ba .n) v a (m.f (.ba .n) v a (a4 bs 9 s).2 l).2.1 (m.f (.ba .n) v a (a4 bs 9 s).2 l).2.2).1, (m.f (.ba .n) v a (m.f (.ba .n) v a (a4 bs 9 s).2 l).2.1 (m.f (.ba .n) v a (a4 bs 9 s).2 l).2.2).2) := by simp only [m0, if_neg g0, if_pos (eq_of_beq h3)]
     rw [e];refine Y51 ?_;refine Dq (aK4 (b7 22)) ?_;refine yM ?_;refine Dq N_c ?_;refine a9 (aa0 bs m n H v a hv0 ha (.ba .n) (a4 bs 9 s).2 l (by omega)) ?_;refine Dq (ae3 _ _) ?_;refine yM ?_;refine Dq N_c ?_;refine a9 (aa0 bs m n H v a hv0 ha (.ba .n) (m.f (.ba .n) v a (a4 bs 9 s).2 l).2.1 _ (by omega)) ?_;refine Dq (ae3 _ _) ?_;refine Y10 ?_;refine Rcz ?_;exact VImp.refl _
    ·intro h3
     have g1 : ¬ (a4 bs 9 s).1 = 1 := by simpa using h3
     refine Y16 ?_;refine Cq ?_ ?_
     ·intro h4
      have e : m0 bs m (.ba .n) v a s l = (apM (deM (b7 23)) (m.f (.li .n) v a (a4 bs 9 s).2 l).1, (m.f (.li .n) v a (a4 bs 9 s).2 l).2) := by simp only [m0, if_neg g0, if_neg g1, if_pos (eq_of_beq h4)]
      rw [e];refine Y51 ?_;refine Dq (aK4 (b7 23)) ?_;refine yM ?_;refine yG ?_;refine Dq N_c ?_;refine yZ ?_;refine Dq (D_c (b7 2) [tyc n6]) ?_;refine a9 (aa0 bs m n H v a hv0 ha (.li .n) (a4 bs 9 s).2 l (by omega)) ?_;refine Dq (ae3 _ _) ?_;refine Y29 ?_;refine Rcz ?_;exact VImp.refl _
     ·intro h4
      have g2 : ¬ (a4 bs 9 s).1 = 2 := by simpa using h4
      refine Y16 ?_;refine Cq ?_ ?_
      ·intro h5
       have e : m0 bs m (.ba .n) v a s l = (apM (deM (b7 24)) (nuM (a4 bs 4 (a4 bs 9 s).2).1), (a4 bs 4 (a4 bs 9 s).2).2, l) := by simp only [m0, if_neg g0, if_neg g1, if_neg g2, if_pos (eq_of_beq h5)]
       rw [e];refine Y51 ?_;refine Dq (aK4 (b7 24)) ?_;refine yL ?_;refine Y13 ?_;refine a9 (n4 bs 4 (a4 bs 9 s).2 (by omega)) ?_;refine Dq (X5 _) ?_;refine Dq (ae3 _ _) ?_;refine Y29 ?_;refine Rcz ?_;exact VImp.refl _
      ·intro h5
       have g3 : ¬ (a4 bs 9 s).1 = 3 := by simpa using h5
       have hb9 := p8 bs s (n := 9) (by decide)
       refine Y16 ?_;refine Tri.cutT ⟨[(4, .ptr 4 [] 172), (5, .ptr 5 [] 58), (6, .ptr 6 [] 53), (7, .ptr 7 [] 54), (8, .ptr 8 [] 32), (9, .fn (.func 228) [] [.ptr 4 [] 172, .ptr 6 [] 53, .ptr 7 [] 54]), (80, bv (decide ((a4 bs 9 s).1 < 7)))], [(5, .var 58 (.pu (tyc (.mk k' n' r' ks')))), (8, .var 32 (.agg 32 [iv .i64 0, iv .i64 0, .pu (f5 Z32), .nilc, .nilc]))] ++ cc7 v a ++ mkO bs (a4 bs 9 s).2 l⟩ ?_ ?_
       ·skip
        refine tQ ?_;refine Cq ?_ ?_
        ·intro h6
         have hx6 : ((a4 bs 9 s).1 == 4) = decide ((a4 bs 9 s).1 < 7) := by have := eq_of_beq h6; rw [this]; rfl
         refine Tri.skip ?_;refine k7 ?_ ?_
         ·repeat (first | exact SubE.nil | refine SubE.cons rfl (by first | rfl | (rw [b4 (by omega) (by omega)]; rfl) | (exact congrArg bv hx6)) ?_)
         ·repeat (first | exact SubH.nil | refine SubH.cons rfl (by first | rfl | (rw [b4 (by omega) (by omega)]; rfl) | (exact congrArg bv hx6)) ?_)
        ·intro h6
         refine Y16 ?_;refine Cq ?_ ?_
         ·intro h7
          have hx6 : ((a4 bs 9 s).1 == 5) = decide ((a4 bs 9 s).1 < 7) := by have := eq_of_beq h7; rw [this]; rfl
          refine Tri.skip ?_;refine k7 ?_ ?_
          ·repeat (first | exact SubE.nil | refine SubE.cons rfl (by first | rfl | (rw [b4 (by omega) (by omega)]; rfl) | (exact congrArg bv hx6)) ?_)
          ·repeat (first | exact SubH.nil | refine SubH.cons rfl (by first | rfl | (rw [b4 (by omega) (by omega)]; rfl) | (exact congrArg bv hx6)) ?_)
         ·intro h7
          have hx6 : ((a4 bs 9 s).1 == 6) = decide ((a4 bs 9 s).1 < 7) := by
           have g4 : ¬ (a4 bs 9 s).1 = 4 := by simpa using h6
           have g5 : ¬ (a4 bs 9 s).1 = 5 := by simpa using h7
           rw [Bool.eq_iff_iff, beq_iff_eq, decide_eq_true_iff]
           omega
          refine Y4 ?_;refine Y12 ?_;refine k7 ?_ ?_
          ·repeat (first | exact SubE.nil | refine SubE.cons rfl (by first | rfl | (rw [b4 (by omega) (by omega)]; rfl) | (exact congrArg bv hx6)) ?_)
          ·repeat (first | exact SubH.nil | refine SubH.cons rfl (by first | rfl | (rw [b4 (by omega) (by omega)]; rfl) | (exact congrArg bv hx6)) ?_)
       ·skip
        refine tQ ?_;refine Cq ?_ ?_
        ·intro h8
         have e : m0 bs m (.ba .n) v a s l = (prM (y5 bs 1 5 (a4 bs 9 s).2).1 (m.f (.ba .n) v a (y5 bs 1 5 (a4 bs 9 s).2).2 l).1 (m.f (.ba .n) v a (m.f (.ba .n) v a (y5 bs 1 5 (a4 bs 9 s).2).2 l).2.1 (m.f (.ba .n) v a (y5 bs 1 5 (a4 bs 9 s).2).2 l).2.2).1, (m.f (.ba .n) v a (m.f (.ba .n) v a (y5 bs 1 5 (a4 bs 9 s).2).2 l).2.1 (m.f (.ba .n) v a (y5 bs 1 5 (a4 bs 9 s).2).2 l).2.2).2) := by simp only [m0, if_neg g0, if_neg g1, if_neg g2, if_neg g3, if_pos (of_decide_eq_true h8)]
         rw [e];refine Y33 ?_;refine a9 (bb3 bs 1 5 (a4 bs 9 s).2 (by omega)) ?_;refine yM ?_;refine Dq N_c ?_;refine a9 (aa0 bs m n H v a hv0 ha (.ba .n) (y5 bs 1 5 (a4 bs 9 s).2).2 l (by omega)) ?_;refine yM ?_;refine Dq N_c ?_;refine a9 (aa0 bs m n H v a hv0 ha (.ba .n) (m.f (.ba .n) v a (y5 bs 1 5 (a4 bs 9 s).2).2 l).2.1 _ (by omega)) ?_;refine Dq (aA6 _ _ _) ?_;refine Y10 ?_;refine Rcz ?_;exact VImp.refl _
        ·intro h8
         have e : m0 bs m (.ba .n) v a s l = (nuM ([0, 1, 2, 3, 7, 1073741824].getD (a4 bs 6 (a4 bs 9 s).2).1.toNat 0), (a4 bs 6 (a4 bs 9 s).2).2, l) := by simp only [m0, if_neg g0, if_neg g1, if_neg g2, if_neg g3, if_neg (of_decide_eq_false h8)]
         rw [e]
         have hix : ([0, 1, 2, 3, 7, 1073741824].map fun i : Int => (Pu.leaf (.int .i64 i)))[(a4 bs 6 (a4 bs 9 s).2).1.toNat]? = some (.leaf (.int .i64 ([0, 1, 2, 3, 7, 1073741824].getD (a4 bs 6 (a4 bs 9 s).2).1.toNat 0))) := by
          generalize (a4 bs 6 (a4 bs 9 s).2).1 = z at hb6
          obtain ⟨j, rfl⟩ := Int.eq_ofNat_of_zero_le hb6.1
          have hj : j < 6 := by omega
          rcases j with _ | _ | _ | _ | _ | _ | j <;> first | rfl | omega
         refine Tri.skip ?_;refine yR ?_;refine yZ ?_;refine yL ?_;refine Y13 ?_;refine a9 (n4 bs 6 (a4 bs 9 s).2 (by omega)) ?_;refine b5 (aL0 SS (h0 := hb6.1) (hp := hix)) ?_;refine yL ?_;refine Dq (X5 _) ?_;refine Y10 ?_;refine Rcz ?_;exact VImp.refl _
  ·intro h1
   refine Y14 ?_;refine yG ?_;refine b5 (z7 SS (h := x5 (hrl.trans hs1.symm))) ?_;refine Y2 ?_;refine Cq ?_ ?_
   ·intro h9
    obtain rfl := be7 hty (by simpa using h9)
    rw [show m0 bs m (.ba .b) v a s l = (coM (b7 1) (a4 bs 2 s).1 [], (a4 bs 2 s).2, l) from rfl];refine Y51 ?_;refine yL ?_;refine Y13 ?_;refine a9 (n4 bs 2 s (by omega)) ?_;refine Dq (aW4 (b7 1) _ []) ?_;refine Y29 ?_;refine Rcz ?_;exact VImp.refl _
   ·intro h9
    have g1 : ¬ k' = 3 := by simpa using h0
    have g2 : ¬ k' = 2 := by simpa using h1
    have g3 : ¬ r' = b7 1 := by simpa using h9
    refine Y14 ?_;refine yG ?_;refine b5 (z7 SS (h := x5 (hrl.trans hs2'.symm))) ?_;refine Y69 ?_;refine q8 zG (T8 SS) ?_;refine Y7 ?_;refine I0 zG (f := 115) (args := [.ptr 950 [] 171, iv .i64 3]) (HR := []) (H := stO bs s) (H' := stO bs (if r' = b7 2 then (c6 bs 3 s).2 else s)) (v := bv (c6 bs 3 s).1) (fun e => ?_) (fun e => ?_) ?_
    ·have e' : r' = b7 2 := by simpa using e
     rw [if_pos e'];exact L4 bs 3 s (by omega)
    ·have e' : ¬ r' = b7 2 := by simpa using e
     exact .cons rfl (by simp [e']) .nil
    refine xQ ?_;refine yN ?_;refine Y12 ?_
    have hb2 : Bd (if r' = b7 2 then (c6 bs 3 s).2 else s) l (k + 1) := by
     split
     ·exact inferInstance
     ·exact Bd.mono h (by omega)
    generalize hs2 : (if r' = b7 2 then (c6 bs 3 s).2 else s) = s2 at hb2 ⊢
    refine tQ ?_;refine Cq ?_ ?_
    ·intro h10
     have hq : r' = b7 2 ∧ (c6 bs 3 s).1 = false := by simpa using h10
     rw [if_pos hq.1] at hs2
     subst hs2
     obtain ⟨hq1, hq2⟩ := hq
     subst hq1
     obtain ⟨x, rfl, rfl, rfl, rfl⟩ := bJ1 hty rfl
     have e : m0 bs m (.li x) v a s l = (coM (b7 2) 1 [(m.f (.ba x) v a (c6 bs 3 s).2 l).1, (m.f (.li x) v a (m.f (.ba x) v a (c6 bs 3 s).2 l).2.1 (m.f (.ba x) v a (c6 bs 3 s).2 l).2.2).1], (m.f (.li x) v a (m.f (.ba x) v a (c6 bs 3 s).2 l).2.1 (m.f (.ba x) v a (c6 bs 3 s).2 l).2.2).2) := by simp only [m0, if_pos hq2]
     rw [e];refine Y51 ?_;refine yM ?_;refine Y8 ?_;refine b5 (j6 SS (h0 := by omega) (hp := (rfl : (w6 [x.ty])[0]? = some _))) ?_;refine yL ?_;refine a9 (aa0 bs m n H v a hv0 ha (.ba x) (c6 bs 3 s).2 l (by omega)) ?_;refine Y36 ?_;refine a9 (aa0 bs m n H v a hv0 ha (.li x) (m.f (.ba x) v a (c6 bs 3 s).2 l).2.1 _ (by omega)) ?_;refine yZ ?_;refine Dq (aW4 (b7 2) 1 [_, _]) ?_;refine Y29 ?_;refine Rcz ?_;exact VImp.refl _
    ·intro h10
     have hq2 : r' = b7 2 → (c6 bs 3 s).1 = true := fun e => by simpa [e] using h10
     refine Y14 ?_;refine yG ?_;refine b5 (z7 SS (h := x5 (hrl.trans hs4.symm))) ?_;refine Y69 ?_;refine q8 zG (T8 SS) ?_;refine Y7 ?_;refine I0 zG (f := 115) (args := [.ptr 950 [] 171, iv .i64 3]) (HR := []) (H := stO bs s2) (H' := stO bs (if r' = b7 4 then (c6 bs 3 s2).2 else s2)) (v := bv (c6 bs 3 s2).1) (fun e => ?_) (fun e => ?_) ?_
     ·have e' : r' = b7 4 := by simpa using e
      rw [if_pos e'];exact L4 bs 3 s2 (by omega)
     ·have e' : ¬ r' = b7 4 := by simpa using e
      exact .cons rfl (by simp [e']) .nil
     refine xQ ?_;refine yN ?_;refine Y12 ?_
     have hb3 : Bd (if r' = b7 4 then (c6 bs 3 s2).2 else s2) l (k + 2) := by
      split
      ·exact Bd.mono (inferInstance : Bd (c6 bs 3 s2).2 l (k + 1 + 1)) (by omega)
      ·exact Bd.mono hb2 (by omega)
     generalize hs3 : (if r' = b7 4 then (c6 bs 3 s2).2 else s2) = s3 at hb3 ⊢
     refine tQ ?_;refine Cq ?_ ?_
     ·intro h11
      have hq : r' = b7 4 ∧ (c6 bs 3 s2).1 = false := by simpa using h11
      rw [if_pos hq.1] at hs3
      subst hs3
      rw [if_neg (by rw [hq.1]; decide)] at hs2
      subst hs2
      obtain ⟨x, rfl, rfl, rfl, rfl⟩ := bW1 hty hq.1
      have e : m0 bs m (.op x) v a s l = (coM (b7 4) 1 [(m.f (.ba x) v a (c6 bs 3 s).2 l).1], (m.f (.ba x) v a (c6 bs 3 s).2 l).2) := by simp only [m0, if_pos hq.2]
      rw [e];refine Y51 ?_;refine yM ?_;refine Y8 ?_;refine b5 (j6 SS (h0 := by omega) (hp := (rfl : (w6 [x.ty])[0]? = some _))) ?_;refine yL ?_;refine a9 (aa0 bs m n H v a hv0 ha (.ba x) (c6 bs 3 s).2 l (by omega)) ?_;refine yZ ?_;refine Dq (aW4 (b7 4) 1 [_]) ?_;refine Y29 ?_;refine Rcz ?_;exact VImp.refl _
     ·intro h11
      have hq4 : r' = b7 4 → (c6 bs 3 s2).1 = true := fun e => by simpa [e] using h11
      refine Y14 ?_;refine yG ?_;refine b5 (z7 SS (h := x5 (hrl.trans hs3'.symm))) ?_;refine Y2 ?_;refine Cq ?_ ?_
      ·intro h12
       have hq : r' = b7 3 := by simpa using h12
       rw [if_neg (by rw [hq]; decide)] at hs3
       subst hs3
       rw [if_neg (by rw [hq]; decide)] at hs2
       subst hs2
       obtain ⟨x, y, rfl, rfl, rfl, rfl⟩ := be6 hty hq
       rw [show m0 bs m (.pa x y) v a s l = (coM (b7 3) 0 [(m.f (.ba x) v a s l).1, (m.f (.ba y) v a (m.f (.ba x) v a s l).2.1 (m.f (.ba x) v a s l).2.2).1], (m.f (.ba y) v a (m.f (.ba x) v a s l).2.1 (m.f (.ba x) v a s l).2.2).2) from rfl];refine Y51 ?_;refine yM ?_;refine Y8 ?_;refine b5 (j6 SS (h0 := by omega) (hp := (rfl : (w6 [x.ty, y.ty])[0]? = some _))) ?_;refine yL ?_;refine a9 (aa0 bs m n H v a hv0 ha (.ba x) s l (by omega)) ?_;refine yM ?_;refine Y8 ?_;refine b5 (j6 SS (h0 := by omega) (hp := (rfl : (w6 [x.ty, y.ty])[1]? = some _))) ?_;refine yL ?_;refine a9 (aa0 bs m n H v a hv0 ha (.ba y) (m.f (.ba x) v a s l).2.1 _ (by omega)) ?_;refine yZ ?_;refine Dq (aW4 (b7 3) 0 [_, _]) ?_;refine Y29 ?_;refine Rcz ?_;exact VImp.refl _
      ·intro h12
       have e : m0 bs m t v a s l = (coM r' 0 [], s3, l) := by
        rcases be5 hty g1 g2 g3 (by simpa using h12) with ⟨x, rfl, hr⟩ | ⟨x, rfl, hr⟩
        ·rw [if_neg (by rw [hr]; decide)] at hs3
         rw [if_pos hr] at hs2
         have := hq2 hr
         simp only [m0, this, ← hs3, ← hs2, hr]
         rfl
        ·rw [if_pos hr] at hs3
         rw [if_neg (by rw [hr]; decide)] at hs2
         have := hq4 hr
         rw [← hs2] at this hs3
         simp only [m0, this, ← hs3, hr]
         rfl
       rw [e];refine Tri.skip ?_;refine Y14 ?_;refine Dq (aW4 r' 0 []) ?_;refine Y10 ?_;refine Rcz ?_;exact VImp.refl _
end
end Go.Proofs.YtkcgkignhpepkaaGreatDoor
