/- Part 5 of the proof: lemmas on walks and the walks of the functions, in their order. -/
import Derived.Test.YtkcgkignhpepkaaGreatDoorW4
import Derived.Test.YtkcgkignhpepkaaGreatDoorRows
import Derived.Test.YtkcgkignhpepkaaGreatDoorCards
import Derived.Test.YtkcgkignhpepkaaGreatDoorTie
import Derived.WalkKit
import Derived.ProofKit
import Derived.OpenShut
import Derived.Lib.LaidTab
import Derived.LaidSub
import Derived.Deep.DeepHandedRow
set_option linter.unusedSimpArgs false
set_option linter.unusedVariables false
set_option linter.unusedSectionVars false
set_option linter.constructorNameAsVariable false
/- The place of work: found. -/
namespace Go.Proofs.YtkcgkignhpepkaaGreatDoor
open Go Hs
variable {G : List (Nat × TypeId × Pu)}
def manyM (k : Int) (n : Nat) : Nat := if k = 4 ∨ k = 10 ∨ k = 8 then n else if k = 5 ∨ k = 9 ∨ k = 11 ∨ k = 12 then 1 else 0
abbrev woO (k : Int) (n : Int) (r : List Int) (ks : List Tm) (cs : List Cs) : List (Nat × Ob) := [(811, .var 3 (iv .i64 (manyM k ks.length : Nat))), (812, .var 32 (.pu (tmc 0 (.mk k n r ks cs))))]
abbrev woV : PV := .fn (.func 242) [] [.ptr 811 [] 3, .ptr 812 [] 32]
theorem many_iv {P : Program} {k : Int} {n : Nat} {x : Int} (h : x = (manyM k n : Nat)) : ObImp P (.var 3 (iv .i64 x)) (.var 3 (iv .i64 (manyM k n : Nat))) := ob_iv h
theorem worked_c (k n : Int) (r : List Int) (ks : List Tm) (cs : List Cs) : HCall Tryz.prog G 219 [.pu (tmc 0 (.mk k n r ks cs))] [] [] woV (woO k n r ks cs) [812, 811] := by
 refine HCall.of_triD tbl 19 [] Tryz.func219 rfl rfl rfl fun w0 M ρ0 D0 => ?_
 refine yR ?_;refine s_box SS 812 ?_;refine yB ?_;refine e_seqN [812] ?_;refine yR ?_;refine s_alloc SS 811 ?_;refine yS ?_;refine e_seqN [811] ?_;refine Y16 ?_;refine Y0 ?_;refine Tri.block ?_;refine Y12 ?_;refine Tri.cond rfl (fun h0 => ?_) (fun h0 => ?_)
 ·skip
  refine Tri.skip ?_;refine tQ ?_;refine Tri.cond rfl (fun h2 => ?_) (fun h2 => ?_)
  ·skip
   refine Y52 ?_;refine Y54 ?_;refine s_val (v_mkFnD SS) ?_;refine Y2 ?_;exact Tri.ret ⟨.inr rfl, ret1 rfl resV_tmp (VImp.refl _), .cons rfl (many_iv (by simp only [beq_iff_eq, beq_eq_false_iff_ne, ne_eq] at *; first | (simp_all [manyM, tms_length]; done) | (simp only [tms_length]; simp_all [manyM]))) (.cons rfl (ObImp.refl _) .nil)⟩
  ·skip
   refine Y12 ?_;refine Tri.cond rfl (fun h3 => ?_) (fun h3 => ?_)
   ·skip
    refine Tri.skip ?_;refine tQ ?_;refine Tri.cond rfl (fun h6 => ?_) (fun h6 => ?_)
    ·skip
     refine yR ?_;refine Y54 ?_;refine s_val (v_mkFnD SS) ?_;refine Y2 ?_;exact Tri.ret ⟨.inr rfl, ret1 rfl resV_tmp (VImp.refl _), .cons rfl (many_iv (by simp only [beq_iff_eq, beq_eq_false_iff_ne, ne_eq] at *; first | (simp_all [manyM, tms_length]; done) | (simp only [tms_length]; simp_all [manyM]))) (.cons rfl (ObImp.refl _) .nil)⟩
    ·skip
     refine Tri.skip ?_;refine yR ?_;refine s_val (v_mkFnD SS) ?_;refine Y2 ?_;exact Tri.ret ⟨.inr rfl, ret1 rfl resV_tmp (VImp.refl _), .cons rfl (many_iv (by simp only [beq_iff_eq, beq_eq_false_iff_ne, ne_eq] at *; first | (simp_all [manyM, tms_length]; done) | (simp only [tms_length]; simp_all [manyM]))) (.cons rfl (ObImp.refl _) .nil)⟩
   ·skip
    refine Y12 ?_;refine Tri.cond rfl (fun h4 => ?_) (fun h4 => ?_)
    ·skip
     refine Tri.skip ?_;refine tQ ?_;refine Tri.cond rfl (fun h6 => ?_) (fun h6 => ?_)
     ·skip
      refine yR ?_;refine Y54 ?_;refine s_val (v_mkFnD SS) ?_;refine Y2 ?_;exact Tri.ret ⟨.inr rfl, ret1 rfl resV_tmp (VImp.refl _), .cons rfl (many_iv (by simp only [beq_iff_eq, beq_eq_false_iff_ne, ne_eq] at *; first | (simp_all [manyM, tms_length]; done) | (simp only [tms_length]; simp_all [manyM]))) (.cons rfl (ObImp.refl _) .nil)⟩
     ·skip
      refine Tri.skip ?_;refine yR ?_;refine s_val (v_mkFnD SS) ?_;refine Y2 ?_;exact Tri.ret ⟨.inr rfl, ret1 rfl resV_tmp (VImp.refl _), .cons rfl (many_iv (by simp only [beq_iff_eq, beq_eq_false_iff_ne, ne_eq] at *; first | (simp_all [manyM, tms_length]; done) | (simp only [tms_length]; simp_all [manyM]))) (.cons rfl (ObImp.refl _) .nil)⟩
    ·skip
     refine Y12 ?_;refine Tri.cond rfl (fun h5 => ?_) (fun h5 => ?_)
     ·skip
      refine Tri.skip ?_;refine tQ ?_;refine Tri.cond rfl (fun h6 => ?_) (fun h6 => ?_)
      ·skip
       refine yR ?_;refine Y54 ?_;refine s_val (v_mkFnD SS) ?_;refine Y2 ?_;exact Tri.ret ⟨.inr rfl, ret1 rfl resV_tmp (VImp.refl _), .cons rfl (many_iv (by simp only [beq_iff_eq, beq_eq_false_iff_ne, ne_eq] at *; first | (simp_all [manyM, tms_length]; done) | (simp only [tms_length]; simp_all [manyM]))) (.cons rfl (ObImp.refl _) .nil)⟩
      ·skip
       refine Tri.skip ?_;refine yR ?_;refine s_val (v_mkFnD SS) ?_;refine Y2 ?_;exact Tri.ret ⟨.inr rfl, ret1 rfl resV_tmp (VImp.refl _), .cons rfl (many_iv (by simp only [beq_iff_eq, beq_eq_false_iff_ne, ne_eq] at *; first | (simp_all [manyM, tms_length]; done) | (simp only [tms_length]; simp_all [manyM]))) (.cons rfl (ObImp.refl _) .nil)⟩
     ·skip
      refine Y12 ?_;refine Tri.cond rfl (fun h6 => ?_) (fun h6 => ?_)
      ·skip
       refine yR ?_;refine Y54 ?_;refine s_val (v_mkFnD SS) ?_;refine Y2 ?_;exact Tri.ret ⟨.inr rfl, ret1 rfl resV_tmp (VImp.refl _), .cons rfl (many_iv (by simp only [beq_iff_eq, beq_eq_false_iff_ne, ne_eq] at *; first | (simp_all [manyM, tms_length]; done) | (simp only [tms_length]; simp_all [manyM]))) (.cons rfl (ObImp.refl _) .nil)⟩
      ·skip
       refine Tri.skip ?_;refine yR ?_;refine s_val (v_mkFnD SS) ?_;refine Y2 ?_;exact Tri.ret ⟨.inr rfl, ret1 rfl resV_tmp (VImp.refl _), .cons rfl (many_iv (by simp only [beq_iff_eq, beq_eq_false_iff_ne, ne_eq] at *; first | (simp_all [manyM, tms_length]; done) | (simp only [tms_length]; simp_all [manyM]))) (.cons rfl (ObImp.refl _) .nil)⟩
 ·skip
  refine Y12 ?_;refine Tri.cond rfl (fun h1 => ?_) (fun h1 => ?_)
  ·skip
   refine Tri.skip ?_;refine tQ ?_;refine Tri.cond rfl (fun h2 => ?_) (fun h2 => ?_)
   ·skip
    refine Y52 ?_;refine Y54 ?_;refine s_val (v_mkFnD SS) ?_;refine Y2 ?_;exact Tri.ret ⟨.inr rfl, ret1 rfl resV_tmp (VImp.refl _), .cons rfl (many_iv (by simp only [beq_iff_eq, beq_eq_false_iff_ne, ne_eq] at *; first | (simp_all [manyM, tms_length]; done) | (simp only [tms_length]; simp_all [manyM]))) (.cons rfl (ObImp.refl _) .nil)⟩
   ·skip
    refine Y12 ?_;refine Tri.cond rfl (fun h3 => ?_) (fun h3 => ?_)
    ·skip
     refine Tri.skip ?_;refine tQ ?_;refine Tri.cond rfl (fun h6 => ?_) (fun h6 => ?_)
     ·skip
      refine yR ?_;refine Y54 ?_;refine s_val (v_mkFnD SS) ?_;refine Y2 ?_;exact Tri.ret ⟨.inr rfl, ret1 rfl resV_tmp (VImp.refl _), .cons rfl (many_iv (by simp only [beq_iff_eq, beq_eq_false_iff_ne, ne_eq] at *; first | (simp_all [manyM, tms_length]; done) | (simp only [tms_length]; simp_all [manyM]))) (.cons rfl (ObImp.refl _) .nil)⟩
     ·skip
      refine Tri.skip ?_;refine yR ?_;refine s_val (v_mkFnD SS) ?_;refine Y2 ?_;exact Tri.ret ⟨.inr rfl, ret1 rfl resV_tmp (VImp.refl _), .cons rfl (many_iv (by simp only [beq_iff_eq, beq_eq_false_iff_ne, ne_eq] at *; first | (simp_all [manyM, tms_length]; done) | (simp only [tms_length]; simp_all [manyM]))) (.cons rfl (ObImp.refl _) .nil)⟩
    ·skip
     refine Y12 ?_;refine Tri.cond rfl (fun h4 => ?_) (fun h4 => ?_)
     ·skip
      refine Tri.skip ?_;refine tQ ?_;refine Tri.cond rfl (fun h6 => ?_) (fun h6 => ?_)
      ·skip
       refine yR ?_;refine Y54 ?_;refine s_val (v_mkFnD SS) ?_;refine Y2 ?_;exact Tri.ret ⟨.inr rfl, ret1 rfl resV_tmp (VImp.refl _), .cons rfl (many_iv (by simp only [beq_iff_eq, beq_eq_false_iff_ne, ne_eq] at *; first | (simp_all [manyM, tms_length]; done) | (simp only [tms_length]; simp_all [manyM]))) (.cons rfl (ObImp.refl _) .nil)⟩
      ·skip
       refine Tri.skip ?_;refine yR ?_;refine s_val (v_mkFnD SS) ?_;refine Y2 ?_;exact Tri.ret ⟨.inr rfl, ret1 rfl resV_tmp (VImp.refl _), .cons rfl (many_iv (by simp only [beq_iff_eq, beq_eq_false_iff_ne, ne_eq] at *; first | (simp_all [manyM, tms_length]; done) | (simp only [tms_length]; simp_all [manyM]))) (.cons rfl (ObImp.refl _) .nil)⟩
     ·skip
      refine Y12 ?_;refine Tri.cond rfl (fun h5 => ?_) (fun h5 => ?_)
      ·skip
       refine Tri.skip ?_;refine tQ ?_;refine Tri.cond rfl (fun h6 => ?_) (fun h6 => ?_)
       ·skip
        refine yR ?_;refine Y54 ?_;refine s_val (v_mkFnD SS) ?_;refine Y2 ?_;exact Tri.ret ⟨.inr rfl, ret1 rfl resV_tmp (VImp.refl _), .cons rfl (many_iv (by simp only [beq_iff_eq, beq_eq_false_iff_ne, ne_eq] at *; first | (simp_all [manyM, tms_length]; done) | (simp only [tms_length]; simp_all [manyM]))) (.cons rfl (ObImp.refl _) .nil)⟩
       ·skip
        refine Tri.skip ?_;refine yR ?_;refine s_val (v_mkFnD SS) ?_;refine Y2 ?_;exact Tri.ret ⟨.inr rfl, ret1 rfl resV_tmp (VImp.refl _), .cons rfl (many_iv (by simp only [beq_iff_eq, beq_eq_false_iff_ne, ne_eq] at *; first | (simp_all [manyM, tms_length]; done) | (simp only [tms_length]; simp_all [manyM]))) (.cons rfl (ObImp.refl _) .nil)⟩
      ·skip
       refine Y12 ?_;refine Tri.cond rfl (fun h6 => ?_) (fun h6 => ?_)
       ·skip
        refine yR ?_;refine Y54 ?_;refine s_val (v_mkFnD SS) ?_;refine Y2 ?_;exact Tri.ret ⟨.inr rfl, ret1 rfl resV_tmp (VImp.refl _), .cons rfl (many_iv (by simp only [beq_iff_eq, beq_eq_false_iff_ne, ne_eq] at *; first | (simp_all [manyM, tms_length]; done) | (simp only [tms_length]; simp_all [manyM]))) (.cons rfl (ObImp.refl _) .nil)⟩
       ·skip
        refine Tri.skip ?_;refine yR ?_;refine s_val (v_mkFnD SS) ?_;refine Y2 ?_;exact Tri.ret ⟨.inr rfl, ret1 rfl resV_tmp (VImp.refl _), .cons rfl (many_iv (by simp only [beq_iff_eq, beq_eq_false_iff_ne, ne_eq] at *; first | (simp_all [manyM, tms_length]; done) | (simp only [tms_length]; simp_all [manyM]))) (.cons rfl (ObImp.refl _) .nil)⟩
  ·skip
   refine Y12 ?_;refine Tri.cond rfl (fun h2 => ?_) (fun h2 => ?_)
   ·skip
    refine Y52 ?_;refine Y54 ?_;refine s_val (v_mkFnD SS) ?_;refine Y2 ?_;exact Tri.ret ⟨.inr rfl, ret1 rfl resV_tmp (VImp.refl _), .cons rfl (many_iv (by simp only [beq_iff_eq, beq_eq_false_iff_ne, ne_eq] at *; first | (simp_all [manyM, tms_length]; done) | (simp only [tms_length]; simp_all [manyM]))) (.cons rfl (ObImp.refl _) .nil)⟩
   ·skip
    refine Y12 ?_;refine Tri.cond rfl (fun h3 => ?_) (fun h3 => ?_)
    ·skip
     refine Tri.skip ?_;refine tQ ?_;refine Tri.cond rfl (fun h6 => ?_) (fun h6 => ?_)
     ·skip
      refine yR ?_;refine Y54 ?_;refine s_val (v_mkFnD SS) ?_;refine Y2 ?_;exact Tri.ret ⟨.inr rfl, ret1 rfl resV_tmp (VImp.refl _), .cons rfl (many_iv (by simp only [beq_iff_eq, beq_eq_false_iff_ne, ne_eq] at *; first | (simp_all [manyM, tms_length]; done) | (simp only [tms_length]; simp_all [manyM]))) (.cons rfl (ObImp.refl _) .nil)⟩
     ·skip
      refine Tri.skip ?_;refine yR ?_;refine s_val (v_mkFnD SS) ?_;refine Y2 ?_;exact Tri.ret ⟨.inr rfl, ret1 rfl resV_tmp (VImp.refl _), .cons rfl (many_iv (by simp only [beq_iff_eq, beq_eq_false_iff_ne, ne_eq] at *; first | (simp_all [manyM, tms_length]; done) | (simp only [tms_length]; simp_all [manyM]))) (.cons rfl (ObImp.refl _) .nil)⟩
    ·skip
     refine Y12 ?_;refine Tri.cond rfl (fun h4 => ?_) (fun h4 => ?_)
     ·skip
      refine Tri.skip ?_;refine tQ ?_;refine Tri.cond rfl (fun h6 => ?_) (fun h6 => ?_)
      ·skip
       refine yR ?_;refine Y54 ?_;refine s_val (v_mkFnD SS) ?_;refine Y2 ?_;exact Tri.ret ⟨.inr rfl, ret1 rfl resV_tmp (VImp.refl _), .cons rfl (many_iv (by simp only [beq_iff_eq, beq_eq_false_iff_ne, ne_eq] at *; first | (simp_all [manyM, tms_length]; done) | (simp only [tms_length]; simp_all [manyM]))) (.cons rfl (ObImp.refl _) .nil)⟩
      ·skip
       refine Tri.skip ?_;refine yR ?_;refine s_val (v_mkFnD SS) ?_;refine Y2 ?_;exact Tri.ret ⟨.inr rfl, ret1 rfl resV_tmp (VImp.refl _), .cons rfl (many_iv (by simp only [beq_iff_eq, beq_eq_false_iff_ne, ne_eq] at *; first | (simp_all [manyM, tms_length]; done) | (simp only [tms_length]; simp_all [manyM]))) (.cons rfl (ObImp.refl _) .nil)⟩
     ·skip
      refine Y12 ?_;refine Tri.cond rfl (fun h5 => ?_) (fun h5 => ?_)
      ·skip
       refine Tri.skip ?_;refine tQ ?_;refine Tri.cond rfl (fun h6 => ?_) (fun h6 => ?_)
       ·skip
        refine yR ?_;refine Y54 ?_;refine s_val (v_mkFnD SS) ?_;refine Y2 ?_;exact Tri.ret ⟨.inr rfl, ret1 rfl resV_tmp (VImp.refl _), .cons rfl (many_iv (by simp only [beq_iff_eq, beq_eq_false_iff_ne, ne_eq] at *; first | (simp_all [manyM, tms_length]; done) | (simp only [tms_length]; simp_all [manyM]))) (.cons rfl (ObImp.refl _) .nil)⟩
       ·skip
        refine Tri.skip ?_;refine yR ?_;refine s_val (v_mkFnD SS) ?_;refine Y2 ?_;exact Tri.ret ⟨.inr rfl, ret1 rfl resV_tmp (VImp.refl _), .cons rfl (many_iv (by simp only [beq_iff_eq, beq_eq_false_iff_ne, ne_eq] at *; first | (simp_all [manyM, tms_length]; done) | (simp only [tms_length]; simp_all [manyM]))) (.cons rfl (ObImp.refl _) .nil)⟩
      ·skip
       refine Y12 ?_;refine Tri.cond rfl (fun h6 => ?_) (fun h6 => ?_)
       ·skip
        refine yR ?_;refine Y54 ?_;refine s_val (v_mkFnD SS) ?_;refine Y2 ?_;exact Tri.ret ⟨.inr rfl, ret1 rfl resV_tmp (VImp.refl _), .cons rfl (many_iv (by simp only [beq_iff_eq, beq_eq_false_iff_ne, ne_eq] at *; first | (simp_all [manyM, tms_length]; done) | (simp only [tms_length]; simp_all [manyM]))) (.cons rfl (ObImp.refl _) .nil)⟩
       ·skip
        refine Tri.skip ?_;refine yR ?_;refine s_val (v_mkFnD SS) ?_;refine Y2 ?_;exact Tri.ret ⟨.inr rfl, ret1 rfl resV_tmp (VImp.refl _), .cons rfl (many_iv (by simp only [beq_iff_eq, beq_eq_false_iff_ne, ne_eq] at *; first | (simp_all [manyM, tms_length]; done) | (simp only [tms_length]; simp_all [manyM]))) (.cons rfl (ObImp.refl _) .nil)⟩
abbrev plO (acc : List Nat) (t : Tm) : List (Nat × Ob) := [(1, .var 32 (.pu (tmc 0 t))), (3, .var 39 (.ow 0 3 (pathL acc)))]
structure Wi where
 i : Nat
 t : Tm
def wiL (t : Tm) : List Wi := match t with
 | .mk k _ _ ks _ => (ks.take (manyM k ks.length)).mapIdx fun i x => ⟨i, x⟩
def wiE (x : Wi) : List PV := [iv .i64 x.i, .pu (tmc 0 x.t)]
def wOut (x : Wi) : Option Wi := if valM x.t then none else some x
def wOb (acc : List Nat) (x : Wi) : List (Nat × Ob) := plO (acc ++ [x.i]) x.t
def rOfX (c : Code) (r : Loop) : Option Wi → Loop
 | none => r
 | some _ => doneL r c
def aOf (acc : List Nat) : Option Wi → List Nat
 | none => acc
 | some x => acc ++ [x.i]
def tOf (t : Tm) : Option Wi → Tm
 | none => t
 | some x => x.t
theorem yc_w {P : Program} {X : Ctx} {l lam : Nat} {r : Loop} {HR : List (Nat × Ob)} {out : Wi → Option Wi} {acc : List Nat} {t : Tm} {c : Code} {x : Wi} (h : YC P X l lam r HR (plO acc t) wiE out (fun _ => c) (wOb acc) x) :
  YCall P X l (wiE x) HR ((lam, .loop r) :: plO acc t) (bv (out x).isNone) [(lam, .loop (rOfX c r (out x))), (1, .var 32 (.pu (tmc 0 (tOf t (out x))))), (3, .var 39 (.ow 0 3 (pathL (aOf acc (out x)))))] := by
 unfold YC at h
 cases ho : out x with
 | none => rw [ho] at h; exact h
 | some e => rw [ho] at h; exact h
theorem worked1_c (k n : Int) (r : List Int) (ks : List Tm) (cs : List Cs) (hm : manyM k ks.length ≤ ks.length) (hl : ks.length < 2^40) (acc : List Nat) (out : Wi → Option Wi) :
  IterC Tryz.prog G 242 [.ptr 811 [] 3, .ptr 812 [] 32] 900 [811, 812, 1, 3, 900] (woO k n r ks cs) (plO acc (.mk k n r ks cs)) (wiL (.mk k n r ks cs)) wiE out (fun _ => .exit 1) (wOb acc) := by
 refine IterC.of_tri tbl 19 Tryz.func242 rfl rfl (fun r z => by cases z <;> rfl) fun l rc w0 M ρ0 D0 hy => ?_
 have hL : (wiL (.mk k n r ks cs)).length = manyM k ks.length := by simp [wiL]; omega
 have hk : ∀ i (hi : i < manyM k ks.length), (wiL (.mk k n r ks cs))[i]'(by omega) = ⟨i, ks[i]'(by omega)⟩ := fun i hi => by simp [wiL]
 refine Y4 ?_;refine Y33 ?_;refine Tri.block (Tri.loopW (σ := {i : Nat // ∀ j (hj : j < i) (h : j < manyM k ks.length), out ⟨j, ks[j]'(by omega)⟩ = none}) (fun i => ⟨[(0, .fn (.yield l) [] []), (2, .ptr 812 [] 32), (5, iv .i64 (manyM k ks.length : Nat)), (6, iv .i64 i.1)], [(811, .var 3 (iv .i64 (manyM k ks.length : Nat))), (812, .var 32 (.pu (tmc 0 (.mk k n r ks cs)))), (900, .loop rc), (1, .var 32 (.pu (tmc 0 (.mk k n r ks cs)))), (3, .var 39 (.ow 0 3 (pathL acc)))]⟩) (fun i => manyM k ks.length - i.1) ⟨0, by intro j hj; omega⟩ ?_ ?_ (fun i => ?_))
 ·exact zW
 ·exact zW
 refine Y31 ?_;refine Tri.cond rfl (fun h0 => ?_) (fun h0 => ?_)
 ·skip
  have hi : i.1 < manyM k ks.length := by simpa using h0
  have hi' : i.1 < ks.length := by omega
  have hy' := yc_w (hy ⟨i.1, ks[i.1]⟩ (by rw [← hk i.1 hi]; exact List.getElem_mem _))
  refine Tri.skip ?_;refine tQ ?_;refine Tri.block ?_;refine Y63 ?_;refine Y29 ?_;refine Y9 ?_;refine yM ?_;refine s_val (v_index SS (h0 := by omega) (hp := tms_get hi')) ?_;refine yL ?_;refine s_yield hy' ?_;refine yQ ?_;refine Y0 ?_;refine Tri.cond rfl (fun h1 => ?_) (fun h1 => ?_)
  ·skip
   obtain ⟨e, he⟩ : ∃ e, out ⟨i.1, ks[i.1]⟩ = some e := by
    cases ho : out ⟨i.1, ks[i.1]⟩ with
    | none => rw [ho] at h1; cases h1
    | some e => exact ⟨e, rfl⟩
   have hfin : (wiL (.mk k n r ks cs)).findSome? out = some e := find_at (i := i.1) (by rw [hL]; omega) (fun j hj => by rw [hk j (by omega)]; exact i.2 j hj (by omega)) (by rw [hk i.1 hi]; exact he)
   rw [hfin];refine tQ ?_;exact Tri.ret ⟨.inr rfl, ret0, .cons rfl (by rw [he]; exact ObImp.refl _) (.cons rfl (by rw [he]; exact ObImp.refl _) (.cons rfl (by rw [he]; exact ObImp.refl _) .nil))⟩
  ·skip
   have he : out ⟨i.1, ks[i.1]⟩ = none := by
    cases ho : out ⟨i.1, ks[i.1]⟩ with
    | none => rfl
    | some e => rw [ho] at h1; cases h1
   have hnext : ∀ j (hj : j < i.1 + 1) (h : j < manyM k ks.length), out ⟨j, ks[j]'(by omega)⟩ = none := fun j hj h => by
    rcases Nat.lt_or_ge j i.1 with h' | h'
    ·exact i.2 j h' h
    ·obtain rfl : j = i.1 := by omega
     exact he
   refine Tri.skip ?_;refine Y27 ?_
   refine ⟨⟨i.1 + 1, hnext⟩, by show manyM k ks.length - (i.1 + 1) < manyM k ks.length - i.1; omega, le_of ?_ ?_⟩
   ·repeat (first | exact SubE.nil | refine SubE.cons rfl (by first | rfl | (rw [wrap64 (by omega) (by omega)]; rfl) | (rw [he]; rfl)) ?_)
   ·repeat (first | exact SubH.nil | refine SubH.cons rfl (by first | rfl | (rw [wrap64 (by omega) (by omega)]; rfl) | (rw [he]; rfl)) ?_)
 ·skip
  have hfin : (wiL (.mk k n r ks cs)).findSome? out = none := find_none fun j hj => by
   rw [hL] at hj
   rw [hk j hj]; exact i.2 j (by simp at h0; omega) hj
  rw [hfin];refine Tri.exit ?_;exact ⟨.inl rfl, ret0, .cons rfl (ObImp.refl _) (.cons rfl (ObImp.refl _) (.cons rfl (ObImp.refl _) .nil))⟩
end Go.Proofs.YtkcgkignhpepkaaGreatDoor

/- The path to the place of work. -/
namespace Go.Proofs.YtkcgkignhpepkaaGreatDoor
open Go Hs
variable {G : List (Nat × TypeId × Pu)}
mutual
def shT : Tm → Prop
 | .mk k n _ ks cs => kidsM k ks.length = true ∧ (k = 11 → 0 ≤ n ∧ n ≤ 7) ∧ shL ks ∧ shC cs
def shL : List Tm → Prop
 | [] => True
 | t :: ts => shT t ∧ shL ts
def shC : List Cs → Prop
 | [] => True
 | c :: cs => shS c ∧ shC cs
def shS : Cs → Prop
 | .mk _ t => shT t
end
theorem shL_mem : ∀ {ks : List Tm}, shL ks → ∀ k ∈ ks, shT k
 | [], _, k, h => by cases h
 | p :: ps, h, k, hk => by
  rcases List.mem_cons.1 hk with rfl | hk
  ·exact h.1
  ·exact shL_mem h.2 k hk
theorem many_le {k : Int} {n : Nat} (h : kidsM k n = true) : manyM k n ≤ n := by
 unfold manyM
 split
 ·omega
 ·split
  ·rename_i h1
   unfold kidsM offM at h
   rcases h1 with rfl | rfl | rfl | rfl <;> simp at h <;> omega
  ·omega
mutual
def placeM : Tm → List Nat
 | .mk k _ _ ks _ => placeL (manyM k ks.length) 0 ks
def placeL (many i : Nat) : List Tm → List Nat
 | [] => []
 | t :: ts => if i < many then (if valM t then placeL many (i + 1) ts else i :: placeM t) else []
end
mutual
theorem place_len : ∀ t : Tm, (placeM t).length + 1 ≤ tsize t
 | .mk k _ _ ks cs => by
  have := placeL_len (manyM k ks.length) 0 ks
  simp only [placeM, tsize]; omega
theorem placeL_len (many i : Nat) : ∀ ks : List Tm, (placeL many i ks).length ≤ tsizeL ks
 | [] => by simp [placeL]
 | t :: ts => by
  have h1 := place_len t
  have h2 := placeL_len many (i + 1) ts
  simp only [placeL, tsizeL]
  split
  ·split
   ·omega
   ·simp; omega
  ·simp
end
theorem zP (many : Nat) : ∀ (ks : List Tm) (i : Nat), match ((ks.take (many - i)).mapIdx fun j x => (⟨i + j, x⟩ : Wi)).findSome? wOut with
  | none => placeL many i ks = []
  | some z => placeL many i ks = z.i :: placeM z.t ∧ i ≤ z.i ∧ ks[z.i - i]? = some z.t ∧ valM z.t = false
 | [], i => by simp [placeL]
 | t :: ts, i => by
  by_cases hi : i < many
  ·obtain ⟨d, hd⟩ : ∃ d, many - i = d + 1 := ⟨many - i - 1, by omega⟩
   have ih := zP many ts (i + 1)
   rw [show many - (i + 1) = d by omega] at ih
   rw [hd]
   simp only [List.take_succ_cons, List.mapIdx_cons, List.findSome?_cons, Nat.add_zero, placeL, if_pos hi]
   have e : (fun (j : Nat) (x : Tm) => (⟨i + (j + 1), x⟩ : Wi)) = fun j x => ⟨i + 1 + j, x⟩ := by funext j x; rw [show i + (j + 1) = i + 1 + j by omega]
   rw [e]
   by_cases hv : valM t = true
   ·rw [show wOut ⟨i, t⟩ = none by simp [wOut, hv]]
    simp only [hv, if_true]
    generalize hq : ((ts.take d).mapIdx fun j x => (⟨i + 1 + j, x⟩ : Wi)).findSome? wOut = q at ih ⊢
    cases q with
    | none => exact ih
    | some z =>
     obtain ⟨h1, h2, h3, h4⟩ := ih
     refine ⟨h1, by omega, ?_, h4⟩
     rw [show z.i - i = (z.i - (i + 1)) + 1 by omega]
     simpa using h3
   ·rw [show wOut ⟨i, t⟩ = some ⟨i, t⟩ by simp [wOut, hv]]
    simp [hv]
  ·rw [show many - i = 0 by omega]
   simp [placeL, hi]
theorem place_none {k n : Int} {r : List Int} {ks : List Tm} {cs : List Cs} (h : (wiL (.mk k n r ks cs)).findSome? wOut = none) : placeM (.mk k n r ks cs) = [] := by
 have := zP (manyM k ks.length) ks 0
 simp only [Nat.sub_zero, Nat.zero_add] at this
 unfold wiL at h
 rw [h] at this
 exact this
theorem place_some {k n : Int} {r : List Int} {ks : List Tm} {cs : List Cs} {z : Wi} (h : (wiL (.mk k n r ks cs)).findSome? wOut = some z) : placeM (.mk k n r ks cs) = z.i :: placeM z.t ∧ ks[z.i]? = some z.t ∧ valM z.t = false := by
 have := zP (manyM k ks.length) ks 0
 simp only [Nat.sub_zero, Nat.zero_add] at this
 unfold wiL at h
 rw [h] at this
 exact ⟨this.1, this.2.2⟩
theorem pathL_append (a b : List Nat) : pathL (a ++ b) = pathL a ++ pathL b := by simp [pathL]
theorem wi_mem {k n : Int} {r : List Int} {ks : List Tm} {cs : List Cs} {x : Wi} (h : x ∈ wiL (.mk k n r ks cs)) : x.t ∈ ks := by
 unfold wiL at h
 obtain ⟨i, hi, rfl⟩ := List.mem_mapIdx.1 h
 exact List.mem_of_mem_take (List.getElem_mem _)
theorem place_c (t0 : Tm) (hs0 : shT t0) (hN : tsize t0 < 2^30) : FCall Tryz.prog G 150 [.pu (tmc 0 t0)] (.pu (.sl 0 3 (pathL (placeM t0)))) := by
 have hpl := place_len t0
 refine FCall.of_tri tbl 19 Tryz.func150 rfl rfl rfl fun w0 M ρ0 D0 => ?_
 refine yR ?_;refine s_box SS 1 ?_;refine yB ?_;refine e_seqN [1] ?_;refine tQ ?_;refine Tri.scope ?_;refine yR ?_;refine s_alloc SS 3 ?_;refine e_seqN [3] ?_;refine tQ ?_;refine Tri.label ?_;refine tQ ?_;refine Tri.block (Tri.loopW (σ := {q : List Nat × Tm // q.1 ++ placeM q.2 = placeM t0 ∧ shT q.2 ∧ tsize q.2 ≤ tsize t0}) (fun i => ⟨[(1, .ptr 1 [] 32), (3, .ptr 3 [] 39)], [(1, .var 32 (.pu (tmc 0 i.1.2))), (3, .var 39 (.ow 0 3 (pathL i.1.1)))]⟩) (fun i => tsize i.1.2) ⟨([], t0), rfl, hs0, Nat.le_refl _⟩ ?_ ?_ (fun i => ?_))
 ·exact zW
 ·exact zW
 refine tQ ?_;refine Tri.block ?_
 obtain ⟨⟨acc, k, n, r, ks, cs⟩, hacc, hsh, hsz⟩ := i
 dsimp only at hacc hsh hsz ⊢
 have hsz' := hsz
 simp only [shT] at hsh
 simp only [tsize] at hsz'
 have hlen := length_tsizeL ks
 have hal := congrArg List.length hacc
 simp only [List.length_append] at hal
 refine Y4 ?_;refine s_call (worked_c k n r ks cs) ?_;refine e_seqN [812, 811] ?_;refine tQ ?_;refine Tri.block ?_;refine tQ ?_;refine Tri.overFunc 900 [811, 812, 1, 3, 900] [1, 3, 900] [(1, .ptr 1 [] 32), (3, .ptr 3 [] 39)] (worked1_c k n r ks cs (many_le hsh.1) (by omega) acc wOut) (by intro x _; rfl) (fun x hx r w0 M ρ0 D0 l => ?_) (fun hdone => ?_) (fun z hz => ?_)
 ·skip
  refine yR ?_;refine Y14 ?_;refine yR ?_;refine s_alloc SS 5 ?_;refine yS ?_;refine e_seqN [5] ?_
  refine ⟨rfl, ?_⟩
  have hxm := tsize_mem (wi_mem hx)
  refine tQ ?_;refine Tri.block ?_;refine Y4 ?_;refine s_val (v_callD (fun _ => value_c _ x.t (Nat.le_refl _) (by omega))) ?_;refine yQ ?_;refine Y0 ?_;refine Tri.cond rfl (fun h0 => ?_) (fun h0 => ?_)
  ·skip
   have ho : wOut x = some x := by simp at h0; simp [wOut, h0]
   refine yR ?_;refine yK ?_;refine yM ?_;refine yZ ?_;refine s_app2 3 [] ?_ ?_
   ·simp [path_len]; omega
   refine yL ?_;refine yW ?_;refine yS ?_;refine e_draw ?_;refine Tri.exit ?_
   refine ⟨rfl, ?_, ?_⟩
   ·rw [ho]; rfl
   ·rw [ho]; exact .cons rfl (ObImp.refl _) (.cons rfl (by rw [pathL_append]; exact ObImp.refl _) .nil)
  ·skip
   have ho : wOut x = none := by simp at h0; simp [wOut, h0]
   refine Tri.skip ?_
   refine ⟨rfl, ?_, ?_⟩
   ·rw [ho]; rfl
   ·rw [ho]; exact .cons rfl (ObImp.refl _) (.cons rfl (ObImp.refl _) .nil)
 ·skip
  have hfin : placeM t0 = acc := by rw [← hacc, place_none hdone, List.append_nil]
  refine yR ?_;refine yK ?_;refine Y2 ?_;exact Tri.ret ⟨.inr rfl, ret1 rfl resV_tmp ((by rw [hfin]; exact ToPu.imp (by repeat constructor)))⟩
 ·skip
  obtain ⟨hp1, hp2, hp3⟩ := place_some hz
  have hzm := List.mem_of_getElem? hp2
  have hzs := tsize_mem hzm
  refine Tri.exit ?_
  refine ⟨⟨(acc ++ [z.i], z.t), by rw [← hacc, hp1]; simp, shL_mem hsh.2.2.1 _ hzm, by show tsize z.t ≤ tsize t0; omega⟩, by show tsize z.t < tsize (.mk k n r ks cs); simp only [tsize]; omega, le_of ?_ ?_⟩
  ·repeat (first | exact SubE.nil | refine SubE.cons rfl rfl ?_)
  ·repeat (first | exact SubH.nil | refine SubH.cons rfl rfl ?_)
end Go.Proofs.YtkcgkignhpepkaaGreatDoor

/- The place of work, with the terms on the way. -/
namespace Go.Proofs.YtkcgkignhpepkaaGreatDoor
open Go Hs
variable {G : List (Nat × TypeId × Pu)}
def walkM : Tm → List Nat → Tm
 | t, [] => t
 | t, i :: p => match t.kids[i]? with
  | some x => walkM x p
  | none => t
def wayM : Tm → List Nat → List Tm
 | t, [] => [t]
 | t, i :: p => t :: match t.kids[i]? with
  | some x => wayM x p
  | none => []
def okP : Tm → List Nat → Prop
 | _, [] => True
 | t, i :: p => ∃ x, t.kids[i]? = some x ∧ okP x p
theorem way_len : ∀ {t : Tm} {p : List Nat}, okP t p → (wayM t p).length = p.length + 1
 | t, [], _ => rfl
 | t, i :: p, ⟨x, hx, h⟩ => by simp [wayM, hx, way_len h]
theorem walk_snoc : ∀ {t : Tm} {p : List Nat} {i : Nat}, okP t p → i < p.length → ∃ x, (walkM t (p.take i)).kids[p[i]!]? = some x ∧ walkM t (p.take (i + 1)) = x ∧ wayM t (p.take (i + 1)) = wayM t (p.take i) ++ [x]
 | t, [], i, _, h => by simp at h
 | t, j :: p, 0, ⟨x, hx, h⟩, _ => ⟨x, by simp [walkM, hx], by simp [walkM, hx], by simp [wayM, hx]⟩
 | t, j :: p, i + 1, ⟨x, hx, h⟩, hi => by
  obtain ⟨y, h1, h2, h3⟩ := walk_snoc (i := i) h (by simpa using hi)
  exact ⟨y, by simpa [walkM, hx] using h1, by simpa [walkM, hx] using h2, by simp [wayM, hx, h3]⟩
theorem walk_size : ∀ {t : Tm} {p : List Nat}, tsize (walkM t p) ≤ tsize t
 | t, [] => by simp [walkM]
 | t, i :: p => by
  simp only [walkM]
  split
  ·rename_i x hx
   have := walk_size (t := x) (p := p)
   have h2 := tsize_mem (List.mem_of_getElem? hx)
   obtain ⟨k, n, r, ks, cs⟩ := t
   simp only [Tm.kids, tsize] at h2 ⊢
   omega
  ·omega
theorem way_le : ∀ (t : Tm) (p : List Nat), (wayM t p).length ≤ p.length + 1
 | t, [] => by simp [wayM]
 | t, i :: p => by
  simp only [wayM, List.length_cons]
  split
  ·have := way_le (by assumption) p; omega
  ·simp
mutual
theorem place_ok : ∀ {t : Tm}, shT t → okP t (placeM t)
 | .mk k n r ks cs, h => by
  simp only [shT] at h
  simp only [placeM]
  exact placeL_ok k n r ks cs ks 0 (fun j x hj => by simpa using hj) h.2.2.1
theorem placeL_ok (k n : Int) (r : List Int) (all : List Tm) (cs : List Cs) {many : Nat} : ∀ (ks : List Tm) (i : Nat), (∀ j x, ks[j]? = some x → all[i + j]? = some x) → shL ks → okP (.mk k n r all cs) (placeL many i ks)
 | [], i, _, _ => trivial
 | t :: ts, i, h, hs => by
  simp only [placeL]
  split
  ·split
   ·exact placeL_ok k n r all cs ts (i + 1) (fun j x hj => by
     have := h (j + 1) x (by simpa using hj)
     rwa [show i + (j + 1) = i + 1 + j by omega] at this) hs.2
   ·exact ⟨t, by simpa [Tm.kids] using h 0 t rfl, place_ok hs.1⟩
  ·trivial
end
theorem found_c (t0 : Tm) (hs0 : shT t0) (hN : tsize t0 < 2^30) : FCall Tryz.prog G 93 [.pu (tmc 0 t0)] (.pu (siteP (placeM t0) (wayM t0 (placeM t0)))) := by
 have hpl := place_len t0
 have hok := place_ok hs0
 refine FCall.of_tri tbl 31 Tryz.func93 rfl rfl rfl fun w0 M ρ0 D0 => ?_
 have hpc := place_c (G := G) t0 hs0 hN
 generalize hp : placeM t0 = p at hpl hok hpc ⊢
 refine yR ?_;refine s_box SS 1 ?_;refine s_alloc SS 2 ?_;refine e_seqN [1, 2] ?_;refine Y4 ?_;refine s_val (v_callD (fun _ => hpc)) ?_;refine Y56 ?_;refine yP ?_;refine s_alloc SS 3 ?_;refine yS ?_;refine e_drawN [3] ?_;refine Y52 ?_;refine Y33 ?_;refine Tri.block (Tri.loopW (σ := Nat) (fun i => ⟨[(1, .ptr 1 [] 32), (2, .ptr 2 [] 147), (3, .ptr 3 [] 147), (12, .pu (.sl 0 3 (pathL p))), (13, iv .i64 (pathL p).length), (14, iv .i64 i)], [(1, .var 32 (.pu (tmc 0 (walkM t0 (p.take i))))), (2, .var 147 (.agg 147 [.nilc, .nilc])), (3, .var 147 (.agg 147 [.pu (.sl 0 3 (pathL p)), .ow 0 32 (tmsc 0 (wayM t0 (p.take i)))]))]⟩) (fun i => p.length - i) 0 ?_ ?_ (fun i => ?_))
 ·repeat (first | exact .nil | refine .cons rfl (by first | exact .refl | (focus ((repeat constructor); done)) | (exact .var (.agg (.cons .refl (.cons .xsOw .nil))))) ?_)
 ·repeat (first | exact .nil | refine .cons rfl (by first | exact .refl | (focus ((repeat constructor); done)) | (exact .var (.agg (.cons .refl (.cons .xsOw .nil))))) ?_)
 refine Y31 ?_;refine Tri.cond rfl (fun h0 => ?_) (fun h0 => ?_)
 ·skip
  have hi : i < p.length := by rw [path_len] at h0; simpa using h0
  obtain ⟨x, hx1, hx2, hx3⟩ := walk_snoc hok hi
  have hsz := walk_size (t := t0) (p := p.take i)
  have hpg := path_get hi
  rw [getElem!_pos p i hi] at hx1
  generalize p[i] = m at hx1 hpg
  have hwl : (wayM t0 (p.take i)).length ≤ i + 1 := by have := way_le t0 (p.take i); simp at this; omega
  generalize walkM t0 (p.take i) = t at hx1 hsz ⊢
  obtain ⟨k, n, r, ks, cs⟩ := t
  simp only [Tm.kids] at hx1
  have hxg : (tmsc 0 ks)[m]? = some (tmc 0 x) := by simp [tms_eq, hx1]
  refine Tri.skip ?_;refine tQ ?_;refine Tri.block ?_;refine yR ?_;refine s_val (v_index SS (h0 := by omega) (hp := hpg)) ?_;refine yL ?_;refine Y14 ?_;refine Y23 ?_;refine yM ?_;refine s_val (v_index SS (h0 := by omega) (hp := hxg)) ?_;refine yL ?_;refine Y17 ?_;refine Y23 ?_;refine Y56 ?_;refine s_app2 3 [1] ?_ ?_
  ·simp [tms_length]; omega
  refine yF ?_;refine yW ?_;refine e_seq ?_;refine Y27 ?_
  refine ⟨i + 1, by omega, le_of ?_ ?_⟩
  ·repeat (first | exact SubE.nil | refine SubE.cons rfl (by first | rfl | (rw [wrap64 (by omega) (by omega)]; rfl) | (first | (rw [hx2]; done) | (rw [hx3, tms_eq, tms_eq, List.map_append]; rfl))) ?_)
  ·repeat (first | exact SubH.nil | refine SubH.cons rfl (by first | rfl | (rw [wrap64 (by omega) (by omega)]; rfl) | (first | (rw [hx2]; done) | (rw [hx3, tms_eq, tms_eq, List.map_append]; rfl))) ?_)
 ·skip
  have hi : p.length ≤ i := by rw [path_len] at h0; simpa using h0
  rw [List.take_of_length_le hi];refine Tri.exit ?_;refine Y57 ?_;exact Tri.ret ⟨.inr rfl, ret1 rfl resV_cell (ToPu.imp (by repeat constructor))⟩
end Go.Proofs.YtkcgkignhpepkaaGreatDoor

/- What each kind of step makes of the whole. -/
namespace Go.Proofs.YtkcgkignhpepkaaGreatDoor
open Go Hs
variable {G : List (Nat × TypeId × Pu)}
theorem way_get : ∀ {t : Tm} {p : List Nat} {i : Nat}, okP t p → i ≤ p.length → (wayM t p)[i]? = some (walkM t (p.take i))
 | t, [], 0, _, _ => by simp [wayM, walkM]
 | t, j :: p, 0, _, _ => by simp [wayM, walkM]
 | t, j :: p, i + 1, ⟨x, hx, h⟩, hi => by
  have := way_get (i := i) h (by simpa using hi)
  simpa [wayM, walkM, hx] using this
theorem walk_kid {t : Tm} {p : List Nat} {i : Nat} (h : okP t p) (hi : i < p.length) : (walkM t (p.take i)).kids[p[i]]? = some (walkM t (p.take (i + 1))) := by
 obtain ⟨x, h1, h2, _⟩ := walk_snoc h hi
 rw [getElem!_pos p i hi] at h1
 rw [h2, h1]
theorem way_kid {t : Tm} {p : List Nat} (h : okP t p) : ∀ i (hi : i < p.length), p[i] < ((wayM t p)[i]'(by rw [way_len h]; omega)).kids.length := fun i hi => by
 have h1 := way_get h (Nat.le_of_lt hi)
 have h2 := walk_kid h hi
 rw [List.getElem?_eq_getElem (by rw [way_len h]; omega)] at h1
 simp only [Option.some.injEq] at h1
 rw [h1];exact (List.getElem?_eq_some_iff.1 h2).1
theorem way_mem {t : Tm} {p : List Nat} (h : okP t p) : ∀ x ∈ wayM t p, tsize x ≤ tsize t := fun x hx => by
 obtain ⟨i, hi, rfl⟩ := List.getElem_of_mem hx
 have h1 := way_get h (i := i) (by rw [way_len h] at hi; omega)
 rw [List.getElem?_eq_getElem hi] at h1
 simp only [Option.some.injEq] at h1
 rw [h1];exact walk_size
theorem kids_le (t : Tm) : t.kids.length < tsize t := by
 obtain ⟨k, n, r, ks, cs⟩ := t
 have := length_tsizeL ks
 simp only [Tm.kids, tsize]; omega
theorem kid_size {t x : Tm} {i : Nat} (h : t.kids[i]? = some x) : tsize x < tsize t := by
 obtain ⟨k, n, r, ks, cs⟩ := t
 have := tsize_mem (List.mem_of_getElem? h)
 simp only [Tm.kids] at this
 simp only [tsize]; omega
theorem path_size {t : Tm} {p : List Nat} (h : okP t p) : p.length < tsize t := by
 induction p generalizing t with
 | nil => have := tsize_pos t; show 0 < tsize t; omega
 | cons i p ih =>
  obtain ⟨x, hx, h⟩ := h
  have := ih h
  have := kid_size hx
  simp; omega
theorem tsizeL_set : ∀ {ks : List Tm} {j : Nat} {x y : Tm}, ks[j]? = some y → tsizeL (ks.set j x) + tsize y = tsizeL ks + tsize x
 | [], j, x, y, h => by simp at h
 | t :: ts, 0, x, y, h => by simp at h; subst h; simp [tsizeL]; omega
 | t :: ts, j + 1, x, y, h => by
  have := tsizeL_set (ks := ts) (j := j) (x := x) (y := y) (by simpa using h)
  simp [tsizeL]; omega
theorem fill_size {t : Tm} {p : List Nat} (h : okP t p) (lo : Nat) : ∀ (hi : Nat) (x : Tm), hi ≤ p.length → tsize (fillM (wayM t p) p lo hi x) ≤ tsize t + tsize x
 | 0, x, _ => by simp [fillM]
 | n + 1, x, hn => by
  have key : ∀ (m : Nat) (y : Tm) (b : Nat), m ≤ p.length → tsize y + tsize (walkM t (p.take m)) ≤ b + tsize t + tsize (walkM t (p.take m)) → tsize y ≤ b + tsize (walkM t (p.take m)) → tsize (fillM (wayM t p) p lo m y) ≤ b + tsize t := by
   intro m
   induction m with
   | zero => intro y b _ _ h2; simpa [fillM, walkM] using h2
   | succ m ih =>
    intro y b hm h1 h2
    simp only [fillM]
    split
    ·omega
    ·have hmp : m < p.length := by omega
     have hk := walk_kid h hmp
     rw [way_get h (by omega), List.getElem?_eq_getElem hmp]
     simp only
     have hs : tsize (setKid (walkM t (p.take m)) p[m] y) + tsize (walkM t (p.take (m + 1))) = tsize (walkM t (p.take m)) + tsize y := by
      generalize walkM t (p.take m) = q at hk ⊢
      obtain ⟨k, n, r, ks, cs⟩ := q
      simp only [Tm.kids] at hk
      have := tsizeL_set (x := y) hk
      simp only [setKid, tsize]; omega
     have := walk_size (t := t) (p := p.take m)
     exact ih _ b (by omega) (by omega) (by omega)
  have h1 := walk_size (t := t) (p := p.take (n + 1))
  have := key (n + 1) x (tsize x) hn (by omega) (by omega)
  omega
theorem filled_c2 (path : List Nat) (way : List Tm) (lo : Nat) (x : Tm) (h2 : path.length ≤ way.length) (hp : ∀ i (h : i < path.length), path[i] < way[i].kids.length) (hw : ∀ t ∈ way, t.kids.length < 2^30) (hl : path.length < 2^30) (hlo : lo < 2^40) :
  FCall Tryz.prog G 153 [.pu (siteP path way), .pu (.leaf (.int .i64 lo)), .pu (.leaf (.int .i64 (pathL path).length)), .pu (tmc 0 x)] (.pu (tmc 0 (fillM way path lo path.length x))) := by
 rw [path_len]; exact filled_c path way lo path.length x (Nat.le_refl _) h2 hp hw hl hlo
theorem byApp_c (t f x b : Tm) (h0 : t.kids[0]? = some f) (h1 : t.kids[1]? = some x) (h2 : f.kids[0]? = some b) (hN : tsize t < 2^30) : FCallN Tryz.prog G 155 [.pu (tmc 0 t)] (fun m => .pu (tmc m (putM [x] 0 b))) := by
 have s0 := kid_size h0
 have s1 := kid_size h1
 have s2 := kid_size h2
 obtain ⟨k, n, r, ks, cs⟩ := t
 obtain ⟨k', n', r', ks', cs'⟩ := f
 simp only [Tm.kids] at h0 h1 h2
 have g0 : (tmsc 0 ks)[0]? = some (tmc 0 (.mk k' n' r' ks' cs')) := by simp [tms_eq, h0]
 have g1 : (tmsc 0 ks)[1]? = some (tmc 0 x) := by simp [tms_eq, h1]
 have g2 : (tmsc 0 ks')[0]? = some (tmc 0 b) := by simp [tms_eq, h2]
 refine FCallN.of_tri tbl 16 Tryz.func155 rfl rfl (fun _ => rfl) fun w0 M ρ0 D0 hM => ?_
 refine yR ?_;refine s_box SS 1 ?_;refine s_alloc SS 2 ?_;refine e_seqN [1, 2] ?_;refine Y23 ?_;refine s_val (v_index SS (h0 := by omega) (hp := g0)) ?_;refine Y9 ?_;refine s_val (v_index SS (h0 := by omega) (hp := g2)) ?_;refine yL ?_;refine Y9 ?_;refine s_val (v_index SS (h0 := by omega) (hp := g1)) ?_;refine Y56 ?_;refine s_val (v_callN (fun m n h => (tmc_low h _).imp) (fun _ => put_c [x] (by simp) (fun v hv => by simp at hv; subst hv; omega) b (by omega))) ?_;refine Y25 ?_;exact Tri.ret ⟨.inr rfl, ret1 rfl resV_cell (ToPu.imp (by repeat constructor))⟩
theorem byLet_c (t x b : Tm) (h0 : t.kids[0]? = some x) (h1 : t.kids[1]? = some b) (hN : tsize t < 2^30) : FCallN Tryz.prog G 157 [.pu (tmc 0 t)] (fun m => .pu (tmc m (putM [x] 0 b))) := by
 have s0 := kid_size h0
 have s1 := kid_size h1
 obtain ⟨k, n, r, ks, cs⟩ := t
 simp only [Tm.kids] at h0 h1
 have g0 : (tmsc 0 ks)[0]? = some (tmc 0 x) := by simp [tms_eq, h0]
 have g1 : (tmsc 0 ks)[1]? = some (tmc 0 b) := by simp [tms_eq, h1]
 refine FCallN.of_tri tbl 13 Tryz.func157 rfl rfl (fun _ => rfl) fun w0 M ρ0 D0 hM => ?_
 refine yR ?_;refine s_box SS 1 ?_;refine s_alloc SS 2 ?_;refine e_seqN [1, 2] ?_;refine Y23 ?_;refine s_val (v_index SS (h0 := by omega) (hp := g1)) ?_;refine yL ?_;refine Y9 ?_;refine s_val (v_index SS (h0 := by omega) (hp := g0)) ?_;refine Y56 ?_;refine s_val (v_callN (fun m n h => (tmc_low h _).imp) (fun _ => put_c [x] (by simp) (fun v hv => by simp at hv; subst hv; omega) b (by omega))) ?_;refine Y25 ?_;exact Tri.ret ⟨.inr rfl, ret1 rfl resV_cell (ToPu.imp (by repeat constructor))⟩
theorem byRet_c (t x b : Tm) (h0 : t.kids[0]? = some x) (h1 : t.kids[1]? = some b) (hN : tsize t < 2^30) : FCallN Tryz.prog G 162 [.pu (tmc 0 t)] (fun m => .pu (tmc m (putM [x] 0 b))) := by
 have s0 := kid_size h0
 have s1 := kid_size h1
 obtain ⟨k, n, r, ks, cs⟩ := t
 simp only [Tm.kids] at h0 h1
 have g0 : (tmsc 0 ks)[0]? = some (tmc 0 x) := by simp [tms_eq, h0]
 have g1 : (tmsc 0 ks)[1]? = some (tmc 0 b) := by simp [tms_eq, h1]
 refine FCallN.of_tri tbl 13 Tryz.func162 rfl rfl (fun _ => rfl) fun w0 M ρ0 D0 hM => ?_
 refine yR ?_;refine s_box SS 1 ?_;refine s_alloc SS 2 ?_;refine e_seqN [1, 2] ?_;refine Y23 ?_;refine s_val (v_index SS (h0 := by omega) (hp := g1)) ?_;refine yL ?_;refine Y9 ?_;refine s_val (v_index SS (h0 := by omega) (hp := g0)) ?_;refine Y56 ?_;refine s_val (v_callN (fun m n h => (tmc_low h _).imp) (fun _ => put_c [x] (by simp) (fun v hv => by simp at hv; subst hv; omega) b (by omega))) ?_;refine Y25 ?_;exact Tri.ret ⟨.inr rfl, ret1 rfl resV_cell (ToPu.imp (by repeat constructor))⟩
def varM : Tm := .mk 1 0 Z32 [] []
def backM (t0 : Tm) (p : List Nat) (n : Nat) : Tm := .mk 3 0 Z32 [fillM (wayM t0 p) p n p.length varM] []
theorem do_c (t0 : Tm) (p : List Nat) (hok : okP t0 p) (hN : tsize t0 < 2^28) (n : Nat) (a b : Tm) (hn : handM (wayM t0 p) (walkM t0 p).ref p.length = (n : Int)) (hnp : n < p.length) (hnum : 0 ≤ (walkM t0 p).num ∧ (walkM t0 p).num < 2^20)
  (ha : (walkM t0 p).kids[0]? = some a) (hb : (walkM t0 (p.take n)).kids[(2 + (walkM t0 p).num).toNat]? = some b) :
  FCall Tryz.prog G 161 [.pu (siteP p (wayM t0 p))] (.pu (tmc 0 (fillM (wayM t0 p) p 0 n (putM [a, backM t0 p n] 0 b)))) := by
 have hpl := path_size hok
 have hwl := way_len hok
 have hat := at_c (G := G) p (wayM t0 p) (by omega)
 have hwg := way_get hok (Nat.le_refl p.length)
 rw [List.take_length, List.getElem?_eq_getElem (by omega)] at hwg
 simp only [Option.some.injEq] at hwg
 rw [hwg] at hat
 have hwn := way_get hok (Nat.le_of_lt hnp)
 have hsz := walk_size (t := t0) (p := p)
 have hszn := walk_size (t := t0) (p := p.take n)
 have hfb := fill_size hok n p.length varM (Nat.le_refl _)
 have hkw : ∀ t ∈ wayM t0 p, t.kids.length < 2^30 := fun t ht => by have := way_mem hok t ht; have := kids_le t; omega
 have sa := kid_size ha
 have sb := kid_size hb
 generalize hw : walkM t0 p = w at hn hnum ha hb hat hsz sa
 obtain ⟨k, num, r, ks, cs⟩ := w
 simp only [Tm.num, Tm.ref, Tm.kids] at hn hnum ha hb
 generalize hv : walkM t0 (p.take n) = v at hb hwn hszn sb
 obtain ⟨k', num', r', ks', cs'⟩ := v
 simp only [Tm.kids] at hb
 have hsv : tsize varM = 1 := by simp [varM, tsize, tsizeL, csizeL]
 have ga : (tmsc 0 ks)[0]? = some (tmc 0 a) := by simp [tms_eq, ha]
 have gb : (tmsc 0 ks')[(2 + num).toNat]? = some (tmc 0 b) := by simp [tms_eq, hb]
 have gw : (tmsc 0 (wayM t0 p))[((n : Int)).toNat]? = some (tmc 0 (.mk k' num' r' ks' cs')) := by simp [tms_eq, hwn]
 have hsb : tsize (backM t0 p n) < 2^30 := by simp only [backM, tsize, tsizeL, csizeL]; omega
 refine FCall.of_tri tbl 45 Tryz.func161 rfl rfl rfl fun w0 M ρ0 D0 => ?_
 refine yR ?_;refine s_box SS 1 ?_;refine s_alloc SS 2 ?_;refine e_seqN [1, 2] ?_;refine Y4 ?_;refine s_val (v_callD (fun _ => hat)) ?_;refine s_alloc SS 3 ?_;refine yS ?_;refine e_seqN [3] ?_;refine Y4 ?_;refine Y3 ?_;refine Y3 ?_;refine yP ?_;refine s_val (v_callD (fun _ => handler_c p (wayM t0 p) r num (by omega) (by omega))) ?_;refine Y14 ?_;rw [hn];refine Y4 ?_;refine yM ?_;refine Y55 ?_;refine yP ?_;refine s_val (v_callD (fun _ => filled_c2 p (wayM t0 p) n varM (by omega) (fun i hi => way_kid hok i hi) hkw (by omega) (by omega))) ?_;refine Y64 ?_;refine s_alloc SS 5 ?_;refine yS ?_;refine e_seqN [5] ?_;refine Y4 ?_;refine yM ?_;refine Y9 ?_;refine yM ?_;refine s_val (v_index SS (h0 := by omega) (hp := gw)) ?_;refine Y9 ?_;refine Y3 ?_;refine yI ?_
 refine s_val (v_index SS (h0 := by rw [wrap64 (by omega) (by omega)]; omega) (hp := by rw [wrap64 (by omega) (by omega)]; exact gb)) ?_;refine yL ?_;refine Y9 ?_;refine s_val (v_index SS (h0 := by omega) (hp := ga)) ?_;refine yL ?_;refine yL ?_;refine s_sl SS (ps := [tmc 0 a, tmc 0 (backM t0 p n)]) ?_;refine s_val (v_callD (fun _ => (put_c [a, backM t0 p n] (by simp) (fun v hv => by simp at hv; rcases hv with rfl | rfl <;> omega) b (by omega)).at (u := .pu (tmc 0 (putM [a, backM t0 p n] 0 b))) (fun m => (tmc_low (Nat.zero_le m) _).imp))) ?_;refine s_val (v_callD (fun _ => filled_c p (wayM t0 p) 0 n (putM [a, backM t0 p n] 0 b) (by omega) (by omega) (fun i hi => way_kid hok i (by omega)) hkw (by omega) (by omega))) ?_;refine Y25 ?_;exact Tri.ret ⟨.inr rfl, ret1 rfl resV_cell (ToPu.imp (by repeat constructor))⟩
def hereM (t0 : Tm) (p : List Nat) (y : Tm) : Tm := fillM (wayM t0 p) p 0 p.length y
theorem here831_c (f : FuncId) (he : entersB Tryz.prog f = true) (t0 : Tm) (p : List Nat) (hok : okP t0 p) (hN : tsize t0 < 2^28) (y : Tm) (h : FCall Tryz.prog G f [.pu (tmc 0 (walkM t0 p))] (.pu (tmc 0 y))) :
  HCall Tryz.prog G 152 [.pu (siteP p (wayM t0 p)), .ptr 831 [] 36] [(831, .var 36 (fV f))] [] (.pu (tmc 0 (hereM t0 p y))) [] [] := by
 have hpl := path_size hok
 have hwl := way_len hok
 have hat := at_c (G := G) p (wayM t0 p) (by omega)
 have hwg := way_get hok (Nat.le_refl p.length)
 rw [List.take_length, List.getElem?_eq_getElem (by omega)] at hwg
 simp only [Option.some.injEq] at hwg
 rw [hwg] at hat
 have hkw : ∀ t ∈ wayM t0 p, t.kids.length < 2^30 := fun t ht => by have := way_mem hok t ht; have := kids_le t; omega
 refine HCall.of_triD tbl 13 [] Tryz.func152 rfl rfl rfl fun w0 M ρ0 D0 => ?_
 refine yR ?_;refine s_box SS 2 ?_;refine s_alloc SS 3 ?_;refine e_seqN [2, 3] ?_;refine Y4 ?_;refine Y55 ?_;refine yL ?_;refine yL ?_;refine s_val (v_callD (fun _ => hat)) ?_;refine s_val (v_callO (fun _ => h) (he := he)) ?_;refine s_val (v_callD (fun _ => filled_c2 p (wayM t0 p) 0 y (by omega) (fun i hi => way_kid hok i hi) hkw (by omega) (by omega))) ?_;refine Y25 ?_;exact Tri.ret ⟨.inr rfl, ret1 rfl resV_cell (VImp.refl _), zO⟩
theorem here832_c (f : FuncId) (he : entersB Tryz.prog f = true) (t0 : Tm) (p : List Nat) (hok : okP t0 p) (hN : tsize t0 < 2^28) (y : Tm) (h : FCall Tryz.prog G f [.pu (tmc 0 (walkM t0 p))] (.pu (tmc 0 y))) :
  HCall Tryz.prog G 152 [.pu (siteP p (wayM t0 p)), .ptr 832 [] 36] [(832, .var 36 (fV f))] [] (.pu (tmc 0 (hereM t0 p y))) [] [] := by
 have hpl := path_size hok
 have hwl := way_len hok
 have hat := at_c (G := G) p (wayM t0 p) (by omega)
 have hwg := way_get hok (Nat.le_refl p.length)
 rw [List.take_length, List.getElem?_eq_getElem (by omega)] at hwg
 simp only [Option.some.injEq] at hwg
 rw [hwg] at hat
 have hkw : ∀ t ∈ wayM t0 p, t.kids.length < 2^30 := fun t ht => by have := way_mem hok t ht; have := kids_le t; omega
 refine HCall.of_triD tbl 13 [] Tryz.func152 rfl rfl rfl fun w0 M ρ0 D0 => ?_
 refine yR ?_;refine s_box SS 2 ?_;refine s_alloc SS 3 ?_;refine e_seqN [2, 3] ?_;refine Y4 ?_;refine Y55 ?_;refine yL ?_;refine yL ?_;refine s_val (v_callD (fun _ => hat)) ?_;refine s_val (v_callO (fun _ => h) (he := he)) ?_;refine s_val (v_callD (fun _ => filled_c2 p (wayM t0 p) 0 y (by omega) (fun i hi => way_kid hok i hi) hkw (by omega) (by omega))) ?_;refine Y25 ?_;exact Tri.ret ⟨.inr rfl, ret1 rfl resV_cell (VImp.refl _), zO⟩
theorem here834_c (f : FuncId) (he : entersB Tryz.prog f = true) (t0 : Tm) (p : List Nat) (hok : okP t0 p) (hN : tsize t0 < 2^28) (y : Tm) (h : FCall Tryz.prog G f [.pu (tmc 0 (walkM t0 p))] (.pu (tmc 0 y))) :
  HCall Tryz.prog G 152 [.pu (siteP p (wayM t0 p)), .ptr 834 [] 36] [(834, .var 36 (fV f))] [] (.pu (tmc 0 (hereM t0 p y))) [] [] := by
 have hpl := path_size hok
 have hwl := way_len hok
 have hat := at_c (G := G) p (wayM t0 p) (by omega)
 have hwg := way_get hok (Nat.le_refl p.length)
 rw [List.take_length, List.getElem?_eq_getElem (by omega)] at hwg
 simp only [Option.some.injEq] at hwg
 rw [hwg] at hat
 have hkw : ∀ t ∈ wayM t0 p, t.kids.length < 2^30 := fun t ht => by have := way_mem hok t ht; have := kids_le t; omega
 refine HCall.of_triD tbl 13 [] Tryz.func152 rfl rfl rfl fun w0 M ρ0 D0 => ?_
 refine yR ?_;refine s_box SS 2 ?_;refine s_alloc SS 3 ?_;refine e_seqN [2, 3] ?_;refine Y4 ?_;refine Y55 ?_;refine yL ?_;refine yL ?_;refine s_val (v_callD (fun _ => hat)) ?_;refine s_val (v_callO (fun _ => h) (he := he)) ?_;refine s_val (v_callD (fun _ => filled_c2 p (wayM t0 p) 0 y (by omega) (fun i hi => way_kid hok i hi) hkw (by omega) (by omega))) ?_;refine Y25 ?_;exact Tri.ret ⟨.inr rfl, ret1 rfl resV_cell (VImp.refl _), zO⟩
theorem here835_c (f : FuncId) (he : entersB Tryz.prog f = true) (t0 : Tm) (p : List Nat) (hok : okP t0 p) (hN : tsize t0 < 2^28) (y : Tm) (h : FCall Tryz.prog G f [.pu (tmc 0 (walkM t0 p))] (.pu (tmc 0 y))) :
  HCall Tryz.prog G 152 [.pu (siteP p (wayM t0 p)), .ptr 835 [] 36] [(835, .var 36 (fV f))] [] (.pu (tmc 0 (hereM t0 p y))) [] [] := by
 have hpl := path_size hok
 have hwl := way_len hok
 have hat := at_c (G := G) p (wayM t0 p) (by omega)
 have hwg := way_get hok (Nat.le_refl p.length)
 rw [List.take_length, List.getElem?_eq_getElem (by omega)] at hwg
 simp only [Option.some.injEq] at hwg
 rw [hwg] at hat
 have hkw : ∀ t ∈ wayM t0 p, t.kids.length < 2^30 := fun t ht => by have := way_mem hok t ht; have := kids_le t; omega
 refine HCall.of_triD tbl 13 [] Tryz.func152 rfl rfl rfl fun w0 M ρ0 D0 => ?_
 refine yR ?_;refine s_box SS 2 ?_;refine s_alloc SS 3 ?_;refine e_seqN [2, 3] ?_;refine Y4 ?_;refine Y55 ?_;refine yL ?_;refine yL ?_;refine s_val (v_callD (fun _ => hat)) ?_;refine s_val (v_callO (fun _ => h) (he := he)) ?_;refine s_val (v_callD (fun _ => filled_c2 p (wayM t0 p) 0 y (by omega) (fun i hi => way_kid hok i hi) hkw (by omega) (by omega))) ?_;refine Y25 ?_;exact Tri.ret ⟨.inr rfl, ret1 rfl resV_cell (VImp.refl _), zO⟩
theorem here836_c (f : FuncId) (he : entersB Tryz.prog f = true) (t0 : Tm) (p : List Nat) (hok : okP t0 p) (hN : tsize t0 < 2^28) (y : Tm) (h : FCall Tryz.prog G f [.pu (tmc 0 (walkM t0 p))] (.pu (tmc 0 y))) :
  HCall Tryz.prog G 152 [.pu (siteP p (wayM t0 p)), .ptr 836 [] 36] [(836, .var 36 (fV f))] [] (.pu (tmc 0 (hereM t0 p y))) [] [] := by
 have hpl := path_size hok
 have hwl := way_len hok
 have hat := at_c (G := G) p (wayM t0 p) (by omega)
 have hwg := way_get hok (Nat.le_refl p.length)
 rw [List.take_length, List.getElem?_eq_getElem (by omega)] at hwg
 simp only [Option.some.injEq] at hwg
 rw [hwg] at hat
 have hkw : ∀ t ∈ wayM t0 p, t.kids.length < 2^30 := fun t ht => by have := way_mem hok t ht; have := kids_le t; omega
 refine HCall.of_triD tbl 13 [] Tryz.func152 rfl rfl rfl fun w0 M ρ0 D0 => ?_
 refine yR ?_;refine s_box SS 2 ?_;refine s_alloc SS 3 ?_;refine e_seqN [2, 3] ?_;refine Y4 ?_;refine Y55 ?_;refine yL ?_;refine yL ?_;refine s_val (v_callD (fun _ => hat)) ?_;refine s_val (v_callO (fun _ => h) (he := he)) ?_;refine s_val (v_callD (fun _ => filled_c2 p (wayM t0 p) 0 y (by omega) (fun i hi => way_kid hok i hi) hkw (by omega) (by omega))) ?_;refine Y25 ?_;exact Tri.ret ⟨.inr rfl, ret1 rfl resV_cell (VImp.refl _), zO⟩
end Go.Proofs.YtkcgkignhpepkaaGreatDoor

/- A world at work. -/
namespace Go.Proofs.YtkcgkignhpepkaaGreatDoor
open Go Hs
variable {G : List (Nat × TypeId × Pu)}
abbrev hereV (l : Nat) : PV := .fn (.func 152) [] [.ptr l [] 36]
abbrev defV : PV := .fn (.func 158) [] [.ptr 823 [] 149]
def bodL (ts : List KT) : List (List Int × PV) := ts.map fun x => (x.1, .pu (tmc 0 x.2))
instance {V : TypeId} {ts : List KT} : NoLab (.map 28 V (mapE (bodL ts))) := inferInstanceAs (NoLab (.map 28 V (mapE (ts.map fun x => (x.1, .pu (tmc 0 x.2))))))
theorem bodL_take {ts : List KT} {i : Nat} (h : i < ts.length) : bodL (ts.take (i + 1)) = bodL (ts.take i) ++ [(ts[i].1, .pu (tmc 0 ts[i].2))] := by
 unfold bodL
 rw [List.take_succ_eq_append_getElem h, List.map_append]; rfl
theorem bod_len {ts : List KT} (h : ∀ x ∈ ts, x.1.length = 32) : ∀ x ∈ bodL ts, x.1.length = 32 := by
 intro x hx
 obtain ⟨y, hy, rfl⟩ := List.mem_map.1 hx
 exact h y hy
def bodM (s : List Int) : List KT → Option Tm
 | [] => none
 | x :: l => if s = x.1 then some x.2 else bodM s l
theorem look_bod {s : List Int} : ∀ {ts : List KT}, lookS s (bodL ts) = (bodM s ts).map fun t => .pu (tmc 0 t)
 | [] => rfl
 | x :: ts => by
  have ih := look_bod (s := s) (ts := ts)
  unfold bodL at ih ⊢
  simp only [List.map_cons, lookS, bodM, ih]
  split <;> rfl
theorem bod_none {s : List Int} : ∀ {ts : List KT}, s ∉ ts.map (·.1) → bodM s ts = none
 | [], _ => rfl
 | x :: ts, h => by
  simp only [List.map_cons, List.mem_cons, not_or] at h
  simp only [bodM, if_neg h.1]
  exact bod_none h.2
abbrev nilF : PV := .pu (.leaf .nilFunc)
abbrev runO (a b : Pu) (ts : List KT) (fs : List PV) : Ob := .var 181 (.agg 181 [.pu (wdP a b ts), .mp 822 28 32, .agg 179 fs])
abbrev ruO (a b : Pu) (ts : List KT) : List (Nat × Ob) := [(820, runO a b ts [nilF, hereV 831, hereV 832, hereV 833, hereV 834, hereV 835, fV 161, hereV 836]), (822, .map 28 32 (mapE (bodL ts))), (823, .var 149 (.ptr 820 [] 181)),
 (831, .var 36 (fV 155)), (832, .var 36 (fV 157)), (833, .var 36 defV), (834, .var 36 (fV 159)), (835, .var 36 (fV 160)), (836, .var 36 (fV 162))]
theorem open831_c : HCall Tryz.prog G 151 [fV 155] [] [] (hereV 831) [(831, .var 36 (fV 155))] [831] := by
 refine HCall.of_triD tbl 4 [] Tryz.func151 rfl rfl rfl fun w0 M ρ0 D0 => ?_
 refine yR ?_;refine s_box SS 831 ?_;refine yB ?_;refine e_seqN [831] ?_;refine yR ?_;refine s_val (v_mkFnD SS) ?_;refine Y2 ?_;exact Tri.ret ⟨.inr rfl, ret1 rfl resV_tmp (VImp.refl _), zO⟩
theorem open832_c : HCall Tryz.prog G 151 [fV 157] [] [] (hereV 832) [(832, .var 36 (fV 157))] [832] := by
 refine HCall.of_triD tbl 4 [] Tryz.func151 rfl rfl rfl fun w0 M ρ0 D0 => ?_
 refine yR ?_;refine s_box SS 832 ?_;refine yB ?_;refine e_seqN [832] ?_;refine yR ?_;refine s_val (v_mkFnD SS) ?_;refine Y2 ?_;exact Tri.ret ⟨.inr rfl, ret1 rfl resV_tmp (VImp.refl _), zO⟩
theorem open834_c : HCall Tryz.prog G 151 [fV 159] [] [] (hereV 834) [(834, .var 36 (fV 159))] [834] := by
 refine HCall.of_triD tbl 4 [] Tryz.func151 rfl rfl rfl fun w0 M ρ0 D0 => ?_
 refine yR ?_;refine s_box SS 834 ?_;refine yB ?_;refine e_seqN [834] ?_;refine yR ?_;refine s_val (v_mkFnD SS) ?_;refine Y2 ?_;exact Tri.ret ⟨.inr rfl, ret1 rfl resV_tmp (VImp.refl _), zO⟩
theorem open835_c : HCall Tryz.prog G 151 [fV 160] [] [] (hereV 835) [(835, .var 36 (fV 160))] [835] := by
 refine HCall.of_triD tbl 4 [] Tryz.func151 rfl rfl rfl fun w0 M ρ0 D0 => ?_
 refine yR ?_;refine s_box SS 835 ?_;refine yB ?_;refine e_seqN [835] ?_;refine yR ?_;refine s_val (v_mkFnD SS) ?_;refine Y2 ?_;exact Tri.ret ⟨.inr rfl, ret1 rfl resV_tmp (VImp.refl _), zO⟩
theorem open836_c : HCall Tryz.prog G 151 [fV 162] [] [] (hereV 836) [(836, .var 36 (fV 162))] [836] := by
 refine HCall.of_triD tbl 4 [] Tryz.func151 rfl rfl rfl fun w0 M ρ0 D0 => ?_
 refine yR ?_;refine s_box SS 836 ?_;refine yB ?_;refine e_seqN [836] ?_;refine yR ?_;refine s_val (v_mkFnD SS) ?_;refine Y2 ?_;exact Tri.ret ⟨.inr rfl, ret1 rfl resV_tmp (VImp.refl _), zO⟩
theorem open833_c : HCall Tryz.prog G 151 [defV] [] [] (hereV 833) [(833, .var 36 defV)] [833] := by
 refine HCall.of_triD tbl 4 [823] Tryz.func151 rfl rfl rfl fun w0 M ρ0 D0 => ?_
 refine yR ?_;refine s_box SS 833 ?_;refine yB ?_;refine e_seqN [833] ?_;refine yR ?_;refine s_val (v_mkFnD SS) ?_;refine Y2 ?_;exact Tri.ret ⟨.inr rfl, ret1 rfl resV_tmp (VImp.refl _), zO⟩
set_option maxHeartbeats 1000000 in
theorem opened_c (a b : Pu) (ts : List KT) (hnd : (ts.map (·.1)).Nodup) (hl : ts.length < 2^40) : HCall Tryz.prog G 94 [.pu (wdP a b ts)] [] [] (.ptr 820 [] 181) (ruO a b ts) [822, 820, 823, 831, 832, 833, 834, 835, 836] := by
 refine HCall.of_triE tbl 48 [] Tryz.func94 rfl rfl rfl rfl rfl (by repeat (first | exact .nil | refine .cons rfl rfl ?_ | refine .cons rfl noLabs ?_)) rfl fun w0 M ρ0 D0 => ?_
 refine Tri.fact (i := 0) rfl (fun D w x h => wd_wf h) (fun hr => ?_);refine yR ?_;refine s_box SS 1 ?_;refine yB ?_;refine e_seqN [1] ?_;refine Y4 ?_;refine s_makeMap 822 ?_;refine yP ?_;refine s_box SS 820 ?_;refine s_alloc SS 823 ?_;refine yS ?_;refine e_seqN [822, 820, 823] ?_;refine Y4 ?_;refine Y50 ?_;refine Y55 ?_;refine Y33 ?_;refine Tri.block (Tri.loopW (σ := Nat) (fun i => ⟨[(3, .ptr 823 [] 149), (15, .pu (.sl 0 116 (ts.map ktP))), (16, iv .i64 (ts.map ktP).length), (17, iv .i64 i)], [(820, .var 181 (.agg 181 [.pu (wdP a b ts), .mp 822 28 32, .pu (.agg 179 (List.replicate 8 (.leaf .nilFunc)))])), (822, .map 28 32 (mapE (bodL (ts.take i)))), (823, .var 149 (.ptr 820 [] 181))]⟩) (fun i => ts.length - i) 0 ?_ ?_ (fun i => ?_))
 ·exact zW
 ·exact zW
 refine Y31 ?_;refine Tri.cond rfl (fun h0 => ?_) (fun h0 => ?_)
 ·skip
  have hi : i < ts.length := by simpa using h0
  have hr1 := hr _ (List.getElem_mem hi)
  have hr2 := bod_len (fun x hx => hr x (List.mem_of_mem_take hx)) (ts := ts.take i)
  have hdup := nodup_take (l := ts.map (·.1)) (i := i) (by simpa using hi)
  rw [List.map_take.symm, List.map_take.symm, List.getElem_map] at hdup
  have hnew : ts[i].1 ∉ (ts.take i).map (·.1) := (hdup.1 (by rw [List.map_take]; exact hnd.sublist (List.take_sublist _ _))).2
  have hnone : lookS ts[i].1 (bodL (ts.take i)) = none := by rw [look_bod, bod_none hnew]; rfl
  refine Tri.skip ?_;refine tQ ?_;refine Tri.block ?_;refine yR ?_;refine s_val (v_index SS (h0 := by omega) (hp := kt_get hi)) ?_;refine yL ?_;refine s_alloc SS 5 ?_;refine yS ?_;refine e_seqN [5] ?_;refine Y28 ?_;refine Y3 ?_;refine Y3 ?_;refine step_insert SS (u := .pu (tmc 0 ts[i].2)) rfl rfl rfl rfl (VImp.refl _) rfl (VImp.refl _) rfl (mapE_ty _) (sum_cond _ [] ).2.2.1 (findE_none hr1 hr2 hnone) (labs := []) (fun l' h => by rw [NoLab.ok] at h; exact h) ?_;refine e_draw ?_;refine Y27 ?_
  refine ⟨i + 1, by omega, le_of ?_ ?_⟩
  ·repeat (first | exact SubE.nil | refine SubE.cons rfl (by first | rfl | (rw [wrap64 (by omega) (by omega)]; rfl) | (simp only [bodL_take hi, mapE_append])) ?_)
  ·repeat (first | exact SubH.nil | refine SubH.cons rfl (by first | rfl | (rw [wrap64 (by omega) (by omega)]; rfl) | (simp only [bodL_take hi, mapE_append])) ?_)
 ·skip
  have hi : ts.length ≤ i := by simpa using h0
  rw [List.take_of_length_le hi];refine Tri.exit ?_;refine Y20 ?_;refine Y4 ?_;refine yM ?_;refine s_call (open831_c) ?_;refine yM ?_;refine s_call (open832_c) ?_;refine yM ?_;refine s_val (v_mkFnD SS) ?_;refine s_call (open833_c) ?_;refine yM ?_;refine s_call (open834_c) ?_;refine yM ?_;refine s_call (open835_c) ?_;refine yM ?_;refine s_call (open836_c) ?_;refine yP ?_;refine Y50 ?_;refine yS ?_;refine e_drawN [831, 832, 833, 834, 835, 836] ?_;refine Y4 ?_;refine Y2 ?_;exact Tri.ret ⟨.inr rfl, ret1 rfl resV_tmp (VImp.refl _), zO⟩
end Go.Proofs.YtkcgkignhpepkaaGreatDoor

/- The kind of a step; what a Def becomes. -/
namespace Go.Proofs.YtkcgkignhpepkaaGreatDoor
open Go Hs
variable {G : List (Nat × TypeId × Pu)}
theorem byDef_c (a b : Pu) (ts : List KT) (hts : ∀ x ∈ ts, x.1.length = 32) (t y : Tm) (hy : bodM t.ref ts = some y) : HCall Tryz.prog G 158 [.pu (tmc 0 t), .ptr 823 [] 149] (ruO a b ts) [] (.pu (tmc 0 y)) [] [] := by
 obtain ⟨k, n, r, ks, cs⟩ := t
 simp only [Tm.ref] at hy
 refine HCall.of_triD tbl 11 [] Tryz.func158 rfl rfl rfl fun w0 M ρ0 D0 => ?_
 refine Tri.fact (i := 0) rfl (fun D w x h => tm_wf h) (fun hr => ?_)
 have hget : mapGet Tryz.prog SS 28 32 (refP r) (mapE (bodL ts)) = some (.pu (tmc 0 y), true) := mapGet_some hr.1 (bod_len hts) (by rw [look_bod, hy]; rfl)
 refine yR ?_;refine s_box SS 2 ?_;refine s_alloc SS 3 ?_;refine e_seqN [2, 3] ?_;refine Y28 ?_;refine Y3 ?_;refine s_val (v_lookup SS rfl rfl rfl (VImp.refl _) (mapE_ty _) (sum_cond _ []).2.2.1 hget) ?_;refine Y25 ?_;exact Tri.ret ⟨.inr rfl, ret1 rfl resV_cell (VImp.refl _), zO⟩
theorem here833_c (a b : Pu) (ts : List KT) (hts : ∀ x ∈ ts, x.1.length = 32) (t0 : Tm) (p : List Nat) (hok : okP t0 p) (hN : tsize t0 < 2^28) (y : Tm) (hy : bodM (walkM t0 p).ref ts = some y) :
  HCall Tryz.prog G 152 [.pu (siteP p (wayM t0 p)), .ptr 833 [] 36] (ruO a b ts) [] (.pu (tmc 0 (hereM t0 p y))) [] [] := by
 have hpl := path_size hok
 have hwl := way_len hok
 have hat := at_c (G := G) p (wayM t0 p) (by omega)
 have hwg := way_get hok (Nat.le_refl p.length)
 rw [List.take_length, List.getElem?_eq_getElem (by omega)] at hwg
 simp only [Option.some.injEq] at hwg
 rw [hwg] at hat
 have hkw : ∀ t ∈ wayM t0 p, t.kids.length < 2^30 := fun t ht => by have := way_mem hok t ht; have := kids_le t; omega
 refine HCall.of_triD tbl 13 [] Tryz.func152 rfl rfl rfl fun w0 M ρ0 D0 => ?_
 refine yR ?_;refine s_box SS 2 ?_;refine s_alloc SS 3 ?_;refine e_seqN [2, 3] ?_;refine Y4 ?_;refine Y55 ?_;refine yL ?_;refine yL ?_;refine s_val (v_callD (fun _ => hat)) ?_;refine s_val (v_callO (fun _ => byDef_c a b ts hts (walkM t0 p) y hy)) ?_;refine s_val (v_callD (fun _ => filled_c2 p (wayM t0 p) 0 y (by omega) (fun i hi => way_kid hok i hi) hkw (by omega) (by omega))) ?_;refine Y25 ?_;exact Tri.ret ⟨.inr rfl, ret1 rfl resV_cell (VImp.refl _), zO⟩
def kindW (ts : List KT) (way : List Tm) (len : Nat) : Tm → Int
 | .mk k n r ks cs =>
  if k = 4 then (match ks[0]? with | some f => cond (f.kind == 3) 1 8 | none => 8)
  else if k = 5 then 2
  else if k = 6 then cond (bodM r ts).isSome 3 8
  else if k = 10 then cond (ks.all (fun x => x.kind == 2)) 4 8
  else if k = 9 then (match ks[0]? with | some v => cond ((matchM cs v).kind != 0) 5 8 | none => 8)
  else if k = 11 then (if handM way r len < 0 then 9 else match way[(handM way r len).toNat]? with
   | some h => cond (decide ((h.kids.length : Int) > 2 + n)) 6 8
   | none => 8)
  else if k = 12 then 7 else 8
def kindM (ts : List KT) (t0 : Tm) (p : List Nat) : Int := kindW ts (wayM t0 p) p.length (walkM t0 p)
theorem hand_lt (way : List Tm) (r : List Int) : ∀ n, handM way r n < n ∧ -1 ≤ handM way r n
 | 0 => by simp [handM]
 | n + 1 => by
  have := hand_lt way r n
  simp only [handM]
  split
  ·split
   ·constructor <;> omega
   ·omega
  ·omega
theorem kind1_c (t : Tm) : FCall Tryz.prog G 163 [.pu (tmc 0 t)] (bv (t.kind == 2)) := by
 obtain ⟨k, n, r, ks, cs⟩ := t
 refine FCall.of_tri tbl 6 Tryz.func163 rfl rfl rfl fun w0 M ρ0 D0 => ?_
 refine yR ?_;refine s_box SS 1 ?_;refine yB ?_;refine e_seqN [1] ?_;refine Y34 ?_;refine Y2 ?_;exact Tri.ret ⟨.inr rfl, ret1 rfl resV_tmp (ToPu.imp (by repeat constructor))⟩
set_option maxHeartbeats 2000000 in
theorem kind_c (a b : Pu) (ts : List KT) (hts : ∀ x ∈ ts, x.1.length = 32) (t0 : Tm) (p : List Nat) (hok : okP t0 p) (hN : tsize t0 < 2^28) (hsh : kidsM (walkM t0 p).kind (walkM t0 p).kids.length = true) (hnum : (walkM t0 p).kind = 11 → 0 ≤ (walkM t0 p).num ∧ (walkM t0 p).num ≤ 7) :
  HCall Tryz.prog G 95 [.ptr 820 [] 181, .pu (siteP p (wayM t0 p))] (ruO a b ts) [] (iv .i64 (kindM ts t0 p)) [] [] := by
 have hpl := path_size hok
 have hwl := way_len hok
 have hat := at_c (G := G) p (wayM t0 p) (by omega)
 have hwg := way_get hok (Nat.le_refl p.length)
 rw [List.take_length, List.getElem?_eq_getElem (by omega)] at hwg
 simp only [Option.some.injEq] at hwg
 rw [hwg] at hat
 have hsz := walk_size (t := t0) (p := p)
 have hmem : walkM t0 p ∈ wayM t0 p := hwg ▸ List.getElem_mem _
 unfold kindM
 generalize hw : walkM t0 p = w at hat hsh hnum hsz hmem ⊢
 obtain ⟨k, n, r, ks, cs⟩ := w
 simp only [Tm.kind, Tm.kids, Tm.num] at hsh hnum
 have hszk : 1 + tsizeL ks + csizeL cs ≤ tsize t0 := by simpa only [tsize] using hsz
 have hlen := length_tsizeL ks
 have hhl := hand_lt (wayM t0 p) r p.length
 refine HCall.of_triD tbl 76 [] Tryz.func95 rfl rfl rfl fun w0 M ρ0 D0 => ?_
 refine Tri.fact (i := 1) rfl (fun D w x h => site_wf h) (fun hr0 => ?_)
 have hrl : r.length = 32 := (wfTs_mem hr0 _ hmem).1
 refine yR ?_;refine s_box SS 3 ?_;refine yB ?_;refine e_seqN [3] ?_;refine Y4 ?_;refine s_val (v_callD (fun _ => hat)) ?_;refine s_alloc SS 5 ?_;refine yS ?_;refine e_seqN [5] ?_;refine Y16 ?_;refine Y0 ?_;refine Tri.block ?_;refine Y12 ?_;refine Tri.cond rfl (fun h0 => ?_) (fun h0 => ?_)
 ·skip
  have hk : k = 4 := by simpa using h0
  have h2 : 0 < ks.length := by rw [hk] at hsh; simp [kidsM] at hsh; omega
  have g0 := tms_get (lo := 0) h2
  have hsp : kindW ts (wayM t0 p) p.length (.mk k n r ks cs) = cond ((ks[0]).kind == 3) 1 8 := by simp only [kindW, hk, List.getElem?_eq_getElem h2] <;> rfl
  generalize ks[0] = f at g0 hsp
  obtain ⟨fk, fn, fr, fks, fcs⟩ := f
  simp only [Tm.kind] at hsp
  refine Y23 ?_;refine s_val (v_index SS (h0 := by omega) (hp := g0)) ?_;refine Y3 ?_;refine Y45 ?_;refine Tri.cond rfl (fun h1 => ?_) (fun h1 => ?_)
  ·skip
   rw [h1] at hsp
   refine Y8 ?_;exact Tri.ret ⟨.inr rfl, ret1 rfl resV_tmp (iv_imp (by first | exact hsp.symm | cases h4)), zO⟩
  ·skip
   rw [h1] at hsp
   refine Tri.skip ?_;refine Y8 ?_;exact Tri.ret ⟨.inr rfl, ret1 rfl resV_tmp (iv_imp (by first | exact hsp.symm | cases h4)), zO⟩
 ·skip
  refine Y12 ?_;refine Tri.cond rfl (fun h2 => ?_) (fun h2 => ?_)
  ·skip
   have hk : k = 5 := by simpa using h2
   have hsp : kindW ts (wayM t0 p) p.length (.mk k n r ks cs) = 2 := by simp only [kindW, hk] <;> rfl
   refine Y8 ?_;exact Tri.ret ⟨.inr rfl, ret1 rfl resV_tmp (iv_imp (by first | exact hsp.symm | cases h4)), zO⟩
  ·skip
   refine Y12 ?_;refine Tri.cond rfl (fun h3 => ?_) (fun h3 => ?_)
   ·skip
    have hk : k = 6 := by simpa using h3
    have hsp : kindW ts (wayM t0 p) p.length (.mk k n r ks cs) = cond (bodM r ts).isSome 3 8 := by simp only [kindW, hk] <;> rfl
    rcases hb : bodM r ts with _ | y
    all_goals
     rw [hb] at hsp
     refine Y47 ?_;refine Y3 ?_
     first | refine s_val (v_lookup SS rfl rfl rfl (VImp.refl _) (mapE_ty _) (sum_cond _ []).2.2.1 (mapGet_some hrl (bod_len hts) (by rw [look_bod, hb]; rfl))) ?_ | refine s_val (v_lookup SS rfl rfl rfl (VImp.refl _) (mapE_ty _) (sum_cond _ []).2.2.1 (mapGet_none (z := .agg 32 [iv .i64 0, iv .i64 0, .pu (refP Z32), .nilc, .nilc]) (by kernel_rfl) hrl (bod_len hts) (by rw [look_bod, hb]; rfl))) ?_
     refine Y46 ?_;refine s_alloc SS 6 ?_;refine Y48 ?_;refine e_drawN [6] ?_;refine Y1 ?_;refine Y0 ?_;refine Tri.cond rfl (fun h4 => ?_) (fun h4 => ?_)
     ·skip
      refine Y8 ?_;exact Tri.ret ⟨.inr rfl, ret1 rfl resV_tmp (iv_imp (by first | exact hsp.symm | cases h4)), zO⟩
     ·skip
      refine Tri.skip ?_;refine Y8 ?_;exact Tri.ret ⟨.inr rfl, ret1 rfl resV_tmp (iv_imp (by first | exact hsp.symm | cases h4)), zO⟩
   ·skip
    refine Y12 ?_;refine Tri.cond rfl (fun h5 => ?_) (fun h5 => ?_)
    ·skip
     have hk : k = 10 := by simpa using h5
     have hsp : kindW ts (wayM t0 p) p.length (.mk k n r ks cs) = cond (ks.all (fun x => x.kind == 2)) 4 8 := by simp only [kindW, hk] <;> rfl
     refine Y23 ?_;refine s_val (v_callD (fun _ => every_c 163 (by kernel_rfl) (fun x => x.kind == 2) ks (by omega) (fun x _ => kind1_c x))) ?_;refine Y0 ?_;refine Tri.cond rfl (fun h6 => ?_) (fun h6 => ?_)
     ·skip
      rw [h6] at hsp
      refine Y8 ?_;exact Tri.ret ⟨.inr rfl, ret1 rfl resV_tmp (iv_imp (by first | exact hsp.symm | cases h4)), zO⟩
     ·skip
      rw [h6] at hsp
      refine Tri.skip ?_;refine Y8 ?_;exact Tri.ret ⟨.inr rfl, ret1 rfl resV_tmp (iv_imp (by first | exact hsp.symm | cases h4)), zO⟩
    ·skip
     refine Y12 ?_;refine Tri.cond rfl (fun h7 => ?_) (fun h7 => ?_)
     ·skip
      have hk : k = 9 := by simpa using h7
      have h2 : 0 < ks.length := by rw [hk] at hsh; simp [kidsM] at hsh; omega
      have hmc := matched_c (G := G) k n r ks cs h2 (by simp only [tsize]; omega)
      have hsp : kindW ts (wayM t0 p) p.length (.mk k n r ks cs) = cond ((matchM cs ks[0]).kind != 0) 5 8 := by simp only [kindW, hk, List.getElem?_eq_getElem h2] <;> rfl
      generalize matchM cs ks[0] = y at hmc hsp
      obtain ⟨yk, yn, yr, yks, ycs⟩ := y
      simp only [Tm.kind] at hsp
      refine Y4 ?_;refine s_val (v_callD (fun _ => hmc.at (u := .pu (tmc 0 (.mk yk yn yr yks ycs))) (fun m => (tmc_low (Nat.zero_le m) _).imp))) ?_;refine s_val (v_getField SS (ht := TyV.ok)) ?_;refine Y45 ?_;refine Tri.cond rfl (fun h8 => ?_) (fun h8 => ?_)
      ·skip
       rw [h8] at hsp
       refine Y8 ?_;exact Tri.ret ⟨.inr rfl, ret1 rfl resV_tmp (iv_imp (by first | exact hsp.symm | cases h4)), zO⟩
      ·skip
       rw [h8] at hsp
       refine Tri.skip ?_;refine Y8 ?_;exact Tri.ret ⟨.inr rfl, ret1 rfl resV_tmp (iv_imp (by first | exact hsp.symm | cases h4)), zO⟩
     ·skip
      refine Y12 ?_;refine Tri.cond rfl (fun h9 => ?_) (fun h9 => ?_)
      ·skip
       have hk : k = 11 := by simpa using h9
       have hnum := hnum hk
       have hsp : kindW ts (wayM t0 p) p.length (.mk k n r ks cs) = (if handM (wayM t0 p) r p.length < 0 then 9 else match (wayM t0 p)[(handM (wayM t0 p) r p.length).toNat]? with | some h => cond (decide ((h.kids.length : Int) > 2 + n)) 6 8 | none => 8) := by simp only [kindW, hk] <;> rfl
       refine Y4 ?_;refine s_val (v_mkFnD SS) ?_;refine Y14 ?_;refine Y1 ?_;refine Y3 ?_;refine Y3 ?_;refine yP ?_;refine s_val (v_callO (fun _ => handler_c p (wayM t0 p) r n (by omega) (by omega))) ?_;refine Y2 ?_;refine Tri.block ?_;refine Y38 ?_;refine Tri.cond rfl (fun h10 => ?_) (fun h10 => ?_)
       ·skip
        rw [if_pos (by simpa using h10)] at hsp
        refine Y8 ?_;exact Tri.ret ⟨.inr rfl, ret1 rfl resV_tmp (iv_imp (by first | exact hsp.symm | cases h4)), zO⟩
       ·skip
        have hnn : 0 ≤ handM (wayM t0 p) r p.length := by simpa using h10
        rw [if_neg (by omega)] at hsp
        have hlt : (handM (wayM t0 p) r p.length).toNat < (wayM t0 p).length := by omega
        have gw := tms_get (lo := 0) hlt
        rw [List.getElem?_eq_getElem hlt] at hsp
        simp only at hsp
        generalize (wayM t0 p)[(handM (wayM t0 p) r p.length).toNat] = x at gw hsp
        obtain ⟨xk, xn, xr, xks, xcs⟩ := x
        simp only [Tm.kids] at hsp
        refine Y23 ?_;refine yM ?_;refine s_val (v_index SS (h0 := hnn) (hp := gw)) ?_;refine Y55 ?_;refine Y3 ?_;refine yI ?_;refine yI ?_;refine yA ?_;refine Y18 ?_;refine Tri.cond rfl (fun h11 => ?_) (fun h11 => ?_)
        ·skip
         rw [tms_length, wrap64 (by omega) (by omega)] at h11
         replace hsp := hsp.trans (show _ = (6 : Int) from by have h := of_decide_eq_true h11; simp [h])
         refine Y8 ?_;exact Tri.ret ⟨.inr rfl, ret1 rfl resV_tmp (iv_imp (by first | exact hsp.symm | cases h4)), zO⟩
        ·skip
         rw [tms_length, wrap64 (by omega) (by omega)] at h11
         replace hsp := hsp.trans (show _ = (8 : Int) from by have h := of_decide_eq_false h11; simp only [gt_iff_lt] at h; simp [h])
         refine Tri.skip ?_;refine Y8 ?_;exact Tri.ret ⟨.inr rfl, ret1 rfl resV_tmp (iv_imp (by first | exact hsp.symm | cases h4)), zO⟩
      ·skip
       refine Y12 ?_;refine Tri.cond rfl (fun h12 => ?_) (fun h12 => ?_)
       ·skip
        have hk : k = 12 := by simpa using h12
        have hsp : kindW ts (wayM t0 p) p.length (.mk k n r ks cs) = 7 := by simp only [kindW, hk] <;> rfl
        refine Y8 ?_;exact Tri.ret ⟨.inr rfl, ret1 rfl resV_tmp (iv_imp (by first | exact hsp.symm | cases h4)), zO⟩
       ·skip
        have hsp : kindW ts (wayM t0 p) p.length (.mk k n r ks cs) = 8 := by
         simp only [beq_eq_false_iff_ne, ne_eq] at h0 h2 h3 h5 h7 h9 h12
         simp only [kindW, if_neg h0, if_neg h2, if_neg h3, if_neg h5, if_neg h7, if_neg h9, if_neg h12]
        refine Tri.skip ?_;refine Y8 ?_;exact Tri.ret ⟨.inr rfl, ret1 rfl resV_tmp (iv_imp (by first | exact hsp.symm | cases h4)), zO⟩
end Go.Proofs.YtkcgkignhpepkaaGreatDoor

/- Shapes and sizes of what comes of a step. -/
namespace Go.Proofs.YtkcgkignhpepkaaGreatDoor
open Go Hs
variable {mn md : Int}
mutual
theorem longP_n : ∀ (p : Pat) (d c : Int), (longP mn md d c p).1 = false → (longP mn md d c p).2 = c + psize p
 | .mk _ _ _ ks, d, c, h => by
  simp only [longP, psize] at h ⊢
  split at h
  ·cases h
  ·rename_i hn
   rw [if_neg hn]
   have := longPs_n ks (d + 1) (c + 1) h
   rw [this]; omega
theorem longPs_n : ∀ (ks : List Pat) (d c : Int), (longPs mn md d c ks).1 = false → (longPs mn md d c ks).2 = c + psizeL ks
 | [], d, c, h => by simp [longPs, psizeL]
 | p :: ps, d, c, h => by
  have h1 := longP_n p d c
  simp only [longPs, psizeL] at h ⊢
  rcases hs : longP mn md d c p with ⟨b, c'⟩
  rw [hs] at h1 h
  cases b
  ·have h1 := h1 rfl
   have h2 := longPs_n ps d c' h
   simp only at h1 h2 ⊢
   rw [h2, h1]; omega
  ·cases h
end
mutual
theorem longT_n : ∀ (t : Tm) (d c : Int), (longT mn md d c t).1 = false → (longT mn md d c t).2 = c + tsize t
 | .mk _ _ _ ks cs, d, c, h => by
  simp only [longT, tsize] at h ⊢
  split at h
  ·cases h
  ·rename_i hn
   rw [if_neg hn]
   have h1 := longTs_n ks (d + 1) (c + 1)
   rcases hs : longTs mn md (d + 1) (c + 1) ks with ⟨b, c'⟩
   rw [hs] at h1 h
   cases b
   ·have h1 := h1 rfl
    have h2 := longCs_n cs (d + 1) c' h
    simp only at h1 h2 ⊢
    rw [h2, h1]; omega
   ·cases h
theorem longTs_n : ∀ (ks : List Tm) (d c : Int), (longTs mn md d c ks).1 = false → (longTs mn md d c ks).2 = c + tsizeL ks
 | [], d, c, h => by simp [longTs, tsizeL]
 | p :: ps, d, c, h => by
  have h1 := longT_n p d c
  simp only [longTs, tsizeL] at h ⊢
  rcases hs : longT mn md d c p with ⟨b, c'⟩
  rw [hs] at h1 h
  cases b
  ·have h1 := h1 rfl
   have h2 := longTs_n ps d c' h
   simp only at h1 h2 ⊢
   rw [h2, h1]; omega
  ·cases h
theorem longC_n : ∀ (x : Cs) (d c : Int), (longC mn md d c x).1 = false → (longC mn md d c x).2 = c + csize x
 | .mk p t, d, c, h => by
  have h1 := longP_n (mn := mn) (md := md) p d c
  simp only [longC, csize] at h ⊢
  rcases hs : longP mn md d c p with ⟨b, c'⟩
  rw [hs] at h1 h
  cases b
  ·have h1 := h1 rfl
   have h2 := longT_n t d c' h
   simp only at h1 h2 ⊢
   rw [h2, h1]; omega
  ·cases h
theorem longCs_n : ∀ (ks : List Cs) (d c : Int), (longCs mn md d c ks).1 = false → (longCs mn md d c ks).2 = c + csizeL ks
 | [], d, c, h => by simp [longCs, csizeL]
 | p :: ps, d, c, h => by
  have h1 := longC_n p d c
  simp only [longCs, csizeL] at h ⊢
  rcases hs : longC mn md d c p with ⟨b, c'⟩
  rw [hs] at h1 h
  cases b
  ·have h1 := h1 rfl
   have h2 := longCs_n ps d c' h
   simp only at h1 h2 ⊢
   rw [h2, h1]; omega
  ·cases h
end
theorem long_size {t : Tm} {d c : Int} (hc : c ≤ mn) (h : (longT mn md d c t).1 = false) : c + tsize t ≤ mn := by
 have h1 := longT_n t d c h
 have h2 := (longT_b (mn := mn) (md := md) t d c hc).2.2 h
 omega
theorem sh_none : shT noneM := by simp [noneM, shT, shL, shC, kidsM]
theorem sh_nat (n : Int) : shT (natM n) := by simp [natM, shT, shL, shC, kidsM]
theorem sh_var : shT varM := by simp [varM, shT, shL, shC, kidsM]
mutual
theorem sh_put (vs : List Tm) (hv : ∀ v ∈ vs, shT v) : ∀ (t : Tm) (d : Int), shT t → shT (putM vs d t)
 | .mk k n r ks cs, d, h => by
  simp only [shT] at h
  obtain ⟨h1, h2, h3, h4⟩ := h
  have k1 := sh_putK vs hv ks d k 0 h3
  have k2 := sh_putC vs hv cs d h4
  simp only [putM]
  split
  ·rename_i hC
   split
   ·exact hv _ (List.getElem_mem _)
   ·refine ⟨by rw [putK_len]; exact h1, fun e => ?_, k1, k2⟩
    rw [hC.1] at e; cases e
  ·exact ⟨by rw [putK_len]; exact h1, h2, k1, k2⟩
theorem sh_putK (vs : List Tm) (hv : ∀ v ∈ vs, shT v) : ∀ (ks : List Tm) (d k : Int) (i : Nat), shL ks → shL (putK vs d k i ks)
 | [], _, _, _, _ => trivial
 | t :: ts, d, k, i, h => ⟨sh_put vs hv t _ h.1, sh_putK vs hv ts d k (i + 1) h.2⟩
theorem sh_putC (vs : List Tm) (hv : ∀ v ∈ vs, shT v) : ∀ (cs : List Cs) (d : Int), shC cs → shC (putC vs d cs)
 | [], _, _ => trivial
 | c :: cs, d, h => ⟨sh_putS vs hv c d h.1, sh_putC vs hv cs d h.2⟩
theorem sh_putS (vs : List Tm) (hv : ∀ v ∈ vs, shT v) : ∀ (c : Cs) (d : Int), shS c → shS (putS vs d c)
 | .mk q t, d, h => sh_put vs hv t _ h
end
theorem sh_kid {t x : Tm} {i : Nat} (h : shT t) (hx : t.kids[i]? = some x) : shT x := by
 obtain ⟨k, n, r, ks, cs⟩ := t
 exact shL_mem h.2.2.1 _ (List.mem_of_getElem? hx)
theorem sh_walk : ∀ {t : Tm} {p : List Nat}, shT t → shT (walkM t p)
 | t, [], h => h
 | t, i :: p, h => by
  simp only [walkM]
  split
  ·rename_i x hx; exact sh_walk (sh_kid h hx)
  ·exact h
theorem shL_set : ∀ {ks : List Tm} {j : Nat} {x : Tm}, shL ks → shT x → shL (ks.set j x)
 | [], _, _, _, _ => trivial
 | t :: ts, 0, x, h, hx => ⟨hx, h.2⟩
 | t :: ts, j + 1, x, h, hx => ⟨h.1, shL_set h.2 hx⟩
theorem sh_set {t x : Tm} {j : Nat} (h : shT t) (hx : shT x) : shT (setKid t j x) := by
 obtain ⟨k, n, r, ks, cs⟩ := t
 exact ⟨by rw [List.length_set]; exact h.1, h.2.1, shL_set h.2.2.1 hx, h.2.2.2⟩
theorem sh_fill {t : Tm} {p : List Nat} (hok : okP t p) (ht : shT t) (lo : Nat) : ∀ (hi : Nat) (x : Tm), hi ≤ p.length → shT x → shT (fillM (wayM t p) p lo hi x)
 | 0, x, _, h => h
 | n + 1, x, hn, h => by
  simp only [fillM]
  split
  ·exact h
  ·rw [way_get hok (by omega), List.getElem?_eq_getElem (show n < p.length by omega)]
   exact sh_fill hok ht lo n _ (by omega) (sh_set (sh_walk ht) h)
mutual
theorem sh_fits : ∀ (p : Pat) (v : Tm), shT v → ∀ x ∈ (fitsM p v).1, shT x
 | .mk k n r ks, v, h, x, hx => by
  simp only [fitsM] at hx
  split at hx
  ·simp at hx; rw [hx]; exact h
  ·split at hx
   ·simp at hx
   ·split at hx
    ·split at hx
     ·simp at hx
     ·obtain ⟨k', n', r', ks', cs'⟩ := v
      exact sh_fitsL ks ks' h.2.2.1 x hx
    ·simp at hx
theorem sh_fitsL : ∀ (ps : List Pat) (vs : List Tm), shL vs → ∀ x ∈ (fitsL ps vs).1, shT x
 | [], vs, _, x, hx => by simp [fitsL] at hx
 | _ :: _, [], _, x, hx => by simp [fitsL] at hx
 | p :: ps, v :: vs, h, x, hx => by
  simp only [fitsL, fitAdd] at hx
  split at hx
  ·rcases List.mem_append.1 hx with h' | h'
   ·exact sh_fits p v h.1 x h'
   ·exact sh_fitsL ps vs h.2 x h'
  ·simp at hx
end
theorem sh_match : ∀ (cs : List Cs) (v : Tm), shC cs → shT v → shT (matchM cs v)
 | [], v, _, _ => sh_none
 | .mk q b :: cs, v, h, hv => by
  simp only [matchM]
  split
  ·exact sh_put _ (sh_fits q v hv) b 0 h.1
  ·exact sh_match cs v h.2 hv
mutual
theorem put_size (vs : List Tm) (B : Nat) (hv : ∀ v ∈ vs, tsize v ≤ B) : ∀ (t : Tm) (d : Int), tsize (putM vs d t) ≤ tsize t * (1 + B)
 | .mk k n r ks cs, d => by
  have k1 := put_sizeK vs B hv ks d k 0
  have k2 := put_sizeC vs B hv cs d
  have e : tsize (.mk k n r ks cs) * (1 + B) = (1 + B) + tsizeL ks * (1 + B) + csizeL cs * (1 + B) := by simp only [tsize]; rw [Nat.add_mul, Nat.add_mul, Nat.one_mul]
  rw [e]
  simp only [putM]
  split
  ·split
   ·have := hv _ (List.getElem_mem (l := vs) (n := vs.length - 1 - (IntKind.wrap .i64 (n - d)).toNat) (by omega))
    omega
   ·simp only [tsize]; omega
  ·simp only [tsize]; omega
theorem put_sizeK (vs : List Tm) (B : Nat) (hv : ∀ v ∈ vs, tsize v ≤ B) : ∀ (ks : List Tm) (d k : Int) (i : Nat), tsizeL (putK vs d k i ks) ≤ tsizeL ks * (1 + B)
 | [], _, _, _ => by simp [putK, tsizeL]
 | t :: ts, d, k, i => by
  have h1 := put_size vs B hv t (d + moreM k i)
  have h2 := put_sizeK vs B hv ts d k (i + 1)
  simp only [putK, tsizeL, Nat.add_mul]; omega
theorem put_sizeC (vs : List Tm) (B : Nat) (hv : ∀ v ∈ vs, tsize v ≤ B) : ∀ (cs : List Cs) (d : Int), csizeL (putC vs d cs) ≤ csizeL cs * (1 + B)
 | [], _ => by simp [putC, csizeL]
 | c :: cs, d => by
  have h1 := put_sizeS vs B hv c d
  have h2 := put_sizeC vs B hv cs d
  simp only [putC, csizeL, Nat.add_mul]; omega
theorem put_sizeS (vs : List Tm) (B : Nat) (hv : ∀ v ∈ vs, tsize v ≤ B) : ∀ (c : Cs) (d : Int), csize (putS vs d c) ≤ csize c * (1 + B)
 | .mk q t, d => by
  have h1 := put_size vs B hv t (d + bindsM q)
  have h2 : psize q ≤ psize q * (1 + B) := Nat.le_mul_of_pos_right _ (by omega)
  simp only [putS, csize, Nat.add_mul] at h1 h2 ⊢; omega
end
theorem match_size : ∀ (cs : List Cs) (v : Tm), tsize (matchM cs v) ≤ (1 + csizeL cs) * (1 + tsize v)
 | [], v => by simp [matchM, noneM, tsize, tsizeL, csizeL]
 | .mk q b :: cs, v => by
  have h1 := put_size (fitsM q v).1 (tsize v) (fits_sz q v) b 0
  have h2 := match_size cs v
  have h3 : tsize b * (1 + tsize v) ≤ (1 + (psize q + tsize b + csizeL cs)) * (1 + tsize v) := Nat.mul_le_mul_right _ (by omega)
  have h4 : (1 + csizeL cs) * (1 + tsize v) ≤ (1 + (psize q + tsize b + csizeL cs)) * (1 + tsize v) := Nat.mul_le_mul_right _ (by omega)
  simp only [matchM, csizeL, csize]
  split <;> omega
end Go.Proofs.YtkcgkignhpepkaaGreatDoor

/- What a kind of step makes of the whole, kind by kind. -/
namespace Go.Proofs.YtkcgkignhpepkaaGreatDoor
open Go Hs
variable {G : List (Nat × TypeId × Pu)}
theorem orE_zero {a b : Int} (h : orE a b = 0) : a = 0 ∧ b = 0 := by
 unfold orE at h
 split at h
 ·exact ⟨by assumption, h⟩
 ·contradiction
theorem termErr_sh {m d b k n : Int} {r : List Int} {nk nc : Int} (h : termErr m d b k n r nk nc = 0) : kidsM k nk = true ∧ (k = 11 → 0 ≤ n ∧ n ≤ 7) := by
 unfold termErr at h
 cases h1 : offM k 1 12 with
 | true => simp [h1] at h
 | false =>
 cases h2 : clashM (hasNumM k) (hasRefM k) (hasCasesM k) n r nc with
 | true => simp [h1, h2] at h
 | false =>
 cases h3 : (!kidsM k nk || decide (nc > 8)) with
 | true => rw [h1, h2, h3] at h; simp at h
 | false =>
 rw [h1, h2, h3] at h
 refine ⟨by simp at h3; exact h3.1, fun e => ?_⟩
 subst e
 simp [offM] at h
 omega
mutual
theorem aerr_sh {m d : Int} : ∀ (t : Tm) (b : Int), aerr m d b t = 0 → shT t
 | .mk k n r ks cs, b, h => by
  simp only [aerr] at h
  obtain ⟨h1, h⟩ := orE_zero h
  obtain ⟨_, h⟩ := orE_zero h
  obtain ⟨h2, h3⟩ := orE_zero h
  obtain ⟨k1, k2⟩ := termErr_sh h1
  exact ⟨k1, k2, aerrK_sh ks b k 0 h2, aerrC_sh cs b h3⟩
theorem aerrK_sh {m d : Int} : ∀ (ks : List Tm) (b k : Int) (i : Nat), aerrK m d b k i ks = 0 → shL ks
 | [], _, _, _, _ => trivial
 | t :: ts, b, k, i, h => by
  simp only [aerrK] at h
  obtain ⟨h1, h2⟩ := orE_zero h
  exact ⟨aerr_sh t _ h1, aerrK_sh ts b k (i + 1) h2⟩
theorem aerrC_sh {m d : Int} : ∀ (cs : List Cs) (b : Int), aerrC m d b cs = 0 → shC cs
 | [], _, _ => trivial
 | c :: cs, b, h => by
  simp only [aerrC] at h
  obtain ⟨h1, h2⟩ := orE_zero h
  exact ⟨aerrS_sh c b h1, aerrC_sh cs b h2⟩
theorem aerrS_sh {m d : Int} : ∀ (c : Cs) (b : Int), aerrCs m d b c = 0 → shS c
 | .mk q t, b, h => aerr_sh t _ h
end
theorem check_sh {t : Tm} {d m : Int} (h : checkM t d m = 0) : shT t ∧ tsize t ≤ 300 := by
 unfold checkM at h
 split at h
 ·cases h
 ·rename_i hl
  have := long_size (mn := 300) (md := 60) (t := t) (d := 1) (c := 0) (by omega) (by simpa using hl)
  exact ⟨aerr_sh t 0 h, by omega⟩
def appM (w : Tm) : Tm := match w.kids[0]?, w.kids[1]? with
 | some f, some x => match f.kids[0]? with
  | some b => putM [x] 0 b
  | none => noneM
 | _, _ => noneM
def letM (w : Tm) : Tm := match w.kids[0]?, w.kids[1]? with
 | some x, some b => putM [x] 0 b
 | _, _ => noneM
def priM (w : Tm) : Tm := match w.kids[0]?, w.kids[1]? with
 | some x, some y => primM w.num x.num y.num
 | _, _ => noneM
def matM (w : Tm) : Tm := match w.kids[0]? with
 | some v => matchM w.cases v
 | none => noneM
def doM (t0 : Tm) (p : List Nat) : Tm :=
 match (walkM t0 p).kids[0]?, (walkM t0 (p.take (handM (wayM t0 p) (walkM t0 p).ref p.length).toNat)).kids[(2 + (walkM t0 p).num).toNat]? with
 | some a, some b => fillM (wayM t0 p) p 0 (handM (wayM t0 p) (walkM t0 p).ref p.length).toNat (putM [a, backM t0 p (handM (wayM t0 p) (walkM t0 p).ref p.length).toNat] 0 b)
 | _, _ => noneM
def doesM (ts : List KT) (t0 : Tm) (p : List Nat) (k : Int) : Tm :=
 if k = 1 then hereM t0 p (appM (walkM t0 p)) else if k = 2 then hereM t0 p (letM (walkM t0 p)) else if k = 3 then hereM t0 p ((bodM (walkM t0 p).ref ts).getD noneM)
 else if k = 4 then hereM t0 p (priM (walkM t0 p)) else if k = 5 then hereM t0 p (matM (walkM t0 p)) else if k = 6 then doM t0 p else hereM t0 p (letM (walkM t0 p))
theorem kind_mk {k n : Int} {r : List Int} {ks : List Tm} {cs : List Cs} : (Tm.mk k n r ks cs).kind = k := rfl
theorem num_mk {k n : Int} {r : List Int} {ks : List Tm} {cs : List Cs} : (Tm.mk k n r ks cs).num = n := rfl
theorem ref_mk {k n : Int} {r : List Int} {ks : List Tm} {cs : List Cs} : (Tm.mk k n r ks cs).ref = r := rfl
theorem kids_mk {k n : Int} {r : List Int} {ks : List Tm} {cs : List Cs} : (Tm.mk k n r ks cs).kids = ks := rfl
theorem kind_inv {ts : List KT} {way : List Tm} {len : Nat} {w : Tm} {j : Int} (h : kindW ts way len w = j) :
  (j = 1 → w.kind = 4 ∧ ∃ f, w.kids[0]? = some f ∧ f.kind = 3) ∧ (j = 2 → w.kind = 5) ∧ (j = 3 → w.kind = 6 ∧ (bodM w.ref ts).isSome = true) ∧ (j = 4 → w.kind = 10) ∧ (j = 5 → w.kind = 9) ∧
  (j = 6 → w.kind = 11 ∧ 0 ≤ handM way w.ref len ∧ ∃ x, way[(handM way w.ref len).toNat]? = some x ∧ (x.kids.length : Int) > 2 + w.num) ∧ (j = 7 → w.kind = 12) ∧ (1 ≤ j ∧ j ≤ 9) ∧ (j = 9 → w.kind = 11) := by
 obtain ⟨k, n, r, ks, cs⟩ := w
 simp only [kind_mk, kids_mk, ref_mk, num_mk]
 simp only [kindW] at h
 subst h
 split
 ·subst k
  cases hf : ks[0]? with
  | none => simp
  | some f =>
   simp only
   generalize hb : (f.kind == 3) = bb
   cases bb
   ·simp
   ·have : f.kind = 3 := by simpa using hb
    simp [this]
 ·split
  ·simp_all
  ·split
   ·subst k
    generalize hb : (bodM r ts).isSome = bb
    cases bb <;> simp
   ·split
    ·generalize hb : ks.all (fun x => x.kind == 2) = bb
     cases bb <;> simp_all
    ·split
     ·subst k
      cases hf : ks[0]? with
      | none => simp
      | some f =>
       simp only
       generalize hb : ((matchM cs f).kind != 0) = bb
       cases bb <;> simp
     ·split
      ·subst k
       split
       ·simp
       ·rename_i hn
        cases hx : way[(handM way r len).toNat]? with
        | none => simp
        | some x =>
         simp only
         generalize hb : decide ((x.kids.length : Int) > 2 + n) = bb
         cases bb
         ·simp
         ·have := of_decide_eq_true hb
          simp only [cond_true]
          refine ⟨fun e => by omega, fun e => by omega, fun e => by omega, fun e => by omega, fun e => by omega, fun _ => ⟨trivial, by omega, x, rfl, this⟩, fun e => by omega, by omega, fun e => by omega⟩
      ·split
       ·simp_all
       ·simp
theorem len2 {t : Tm} (h : shT t) (hk : t.kind = 4 ∨ t.kind = 5 ∨ t.kind = 10) : ∃ x y, t.kids[0]? = some x ∧ t.kids[1]? = some y := by
 obtain ⟨k, n, r, ks, cs⟩ := t
 have := h.1
 simp only [Tm.kind, Tm.kids] at hk ⊢
 have hl : ks.length = 2 := by rcases hk with rfl | rfl | rfl <;> simp [kidsM] at this <;> omega
 exact ⟨ks[0], ks[1], by simp [hl], by simp [hl]⟩
theorem len1 {t : Tm} (h : shT t) (hk : t.kind = 3 ∨ t.kind = 9 ∨ t.kind = 11) : ∃ x, t.kids[0]? = some x := by
 obtain ⟨k, n, r, ks, cs⟩ := t
 have := h.1
 simp only [Tm.kind, Tm.kids] at hk ⊢
 have hl : ks.length = 1 := by rcases hk with rfl | rfl | rfl <;> simp [kidsM] at this <;> omega
 exact ⟨ks[0], by simp [hl]⟩
theorem len12 {t : Tm} (h : shT t) (hk : t.kind = 12) : ∃ x y, t.kids[0]? = some x ∧ t.kids[1]? = some y := by
 obtain ⟨k, n, r, ks, cs⟩ := t
 have := h.1
 simp only [Tm.kind, Tm.kids] at hk ⊢
 have hl : 2 ≤ ks.length := by subst hk; simp [kidsM, offM] at this; omega
 exact ⟨ks[0], ks[1], List.getElem?_eq_getElem _, List.getElem?_eq_getElem _⟩
end Go.Proofs.YtkcgkignhpepkaaGreatDoor

/- What each kind of step makes of the whole: contracts. -/
namespace Go.Proofs.YtkcgkignhpepkaaGreatDoor
open Go Hs
variable {G : List (Nat × TypeId × Pu)}
theorem lowAt {P : Program} (t : Tm) : ∀ m, VImp P (.pu (tmc m t)) (.pu (tmc 0 t)) := fun m => (tmc_low (Nat.zero_le m) t).imp
theorem does1_c {ts : List KT} {t0 : Tm} {p : List Nat} (hs : shT t0) (hok : okP t0 p) (hN : tsize t0 < 2^28) (hk : kindM ts t0 p = 1) : HCall Tryz.prog G 152 [.pu (siteP p (wayM t0 p)), .ptr 831 [] 36] [(831, .var 36 (fV 155))] [] (.pu (tmc 0 (doesM ts t0 p 1))) [] [] := by
 obtain ⟨h4, f, hf, hf3⟩ := (kind_inv hk).1 rfl
 have hw := sh_walk (p := p) hs
 obtain ⟨x, y, hx, hy⟩ := len2 hw (.inl h4)
 obtain ⟨b, hb⟩ := len1 (sh_kid hw hf) (.inl hf3)
 have hsz := walk_size (t := t0) (p := p)
 have e : doesM ts t0 p 1 = hereM t0 p (putM [y] 0 b) := by simp [doesM, appM, hf, hy, hb]
 rw [e];exact here831_c _ (by kernel_rfl) t0 p hok hN _ ((byApp_c (walkM t0 p) f y b hf hy hb (by omega)).at (lowAt _))
theorem does2_c {ts : List KT} {t0 : Tm} {p : List Nat} (hs : shT t0) (hok : okP t0 p) (hN : tsize t0 < 2^28) (hk : kindM ts t0 p = 2) : HCall Tryz.prog G 152 [.pu (siteP p (wayM t0 p)), .ptr 832 [] 36] [(832, .var 36 (fV 157))] [] (.pu (tmc 0 (doesM ts t0 p 2))) [] [] := by
 have h5 := (kind_inv hk).2.1 rfl
 have hw := sh_walk (p := p) hs
 obtain ⟨x, y, hx, hy⟩ := len2 hw (.inr (.inl h5))
 have hsz := walk_size (t := t0) (p := p)
 have e : doesM ts t0 p 2 = hereM t0 p (putM [x] 0 y) := by simp [doesM, letM, hx, hy]
 rw [e];exact here832_c _ (by kernel_rfl) t0 p hok hN _ ((byLet_c (walkM t0 p) x y hx hy (by omega)).at (lowAt _))
theorem does3_c (a b : Pu) {ts : List KT} (hts : ∀ x ∈ ts, x.1.length = 32) {t0 : Tm} {p : List Nat} (hok : okP t0 p) (hN : tsize t0 < 2^28) (hk : kindM ts t0 p = 3) : HCall Tryz.prog G 152 [.pu (siteP p (wayM t0 p)), .ptr 833 [] 36] (ruO a b ts) [] (.pu (tmc 0 (doesM ts t0 p 3))) [] [] := by
 obtain ⟨_, h6⟩ := (kind_inv hk).2.2.1 rfl
 obtain ⟨y, hy⟩ := Option.isSome_iff_exists.1 h6
 have e : doesM ts t0 p 3 = hereM t0 p y := by simp [doesM, hy]
 rw [e];exact here833_c a b ts hts t0 p hok hN y hy
theorem does4_c {ts : List KT} {t0 : Tm} {p : List Nat} (hs : shT t0) (hok : okP t0 p) (hN : tsize t0 < 2^28) (hk : kindM ts t0 p = 4) : HCall Tryz.prog G 152 [.pu (siteP p (wayM t0 p)), .ptr 834 [] 36] [(834, .var 36 (fV 159))] [] (.pu (tmc 0 (doesM ts t0 p 4))) [] [] := by
 have h10 := (kind_inv hk).2.2.2.1 rfl
 have hw := sh_walk (p := p) hs
 obtain ⟨x, y, hx, hy⟩ := len2 hw (.inr (.inr h10))
 have e : doesM ts t0 p 4 = hereM t0 p (primM (walkM t0 p).num x.num y.num) := by simp [doesM, priM, hx, hy]
 rw [e];refine here834_c _ (by kernel_rfl) t0 p hok hN _ ?_
 generalize walkM t0 p = w at hx hy ⊢
 obtain ⟨k, n, r, ks, cs⟩ := w
 simp only [kids_mk] at hx hy
 obtain ⟨hx1, hx2⟩ := List.getElem?_eq_some_iff.1 hx
 obtain ⟨hy1, hy2⟩ := List.getElem?_eq_some_iff.1 hy
 subst hx2 hy2;exact (prim_c k n r ks cs (by omega)).at (lowAt _)
theorem does5_c {ts : List KT} {t0 : Tm} {p : List Nat} (hs : shT t0) (hok : okP t0 p) (hN : tsize t0 < 2^28) (hk : kindM ts t0 p = 5) : HCall Tryz.prog G 152 [.pu (siteP p (wayM t0 p)), .ptr 835 [] 36] [(835, .var 36 (fV 160))] [] (.pu (tmc 0 (doesM ts t0 p 5))) [] [] := by
 have h9 := (kind_inv hk).2.2.2.2.1 rfl
 have hw := sh_walk (p := p) hs
 obtain ⟨x, hx⟩ := len1 hw (.inr (.inl h9))
 have hsz := walk_size (t := t0) (p := p)
 have e : doesM ts t0 p 5 = hereM t0 p (matchM (walkM t0 p).cases x) := by simp [doesM, matM, hx]
 rw [e];refine here835_c _ (by kernel_rfl) t0 p hok hN _ ?_
 generalize walkM t0 p = w at hx hsz ⊢
 obtain ⟨k, n, r, ks, cs⟩ := w
 simp only [kids_mk] at hx
 obtain ⟨hx1, hx2⟩ := List.getElem?_eq_some_iff.1 hx
 subst hx2;exact (matched_c k n r ks cs (by omega) (by omega)).at (lowAt _)
theorem does6_c {ts : List KT} {t0 : Tm} {p : List Nat} (hs : shT t0) (hok : okP t0 p) (hN : tsize t0 < 2^28) (hk : kindM ts t0 p = 6) : FCall Tryz.prog G 161 [.pu (siteP p (wayM t0 p))] (.pu (tmc 0 (doesM ts t0 p 6))) := by
 obtain ⟨h11, hn0, x, hx1, hx2⟩ := (kind_inv hk).2.2.2.2.2.1 rfl
 have hw := sh_walk (p := p) hs
 obtain ⟨v, hv⟩ := len1 hw (.inr (.inr h11))
 have hlt := hand_lt (wayM t0 p) (walkM t0 p).ref p.length
 have hnum : 0 ≤ (walkM t0 p).num ∧ (walkM t0 p).num ≤ 7 := by
  generalize walkM t0 p = w at hw h11 ⊢
  obtain ⟨k, n, r, ks, cs⟩ := w
  exact hw.2.1 h11
 obtain ⟨nn, hnn⟩ : ∃ nn, nn = (handM (wayM t0 p) (walkM t0 p).ref p.length).toNat := ⟨_, rfl⟩
 have hnp : nn < p.length := by omega
 rw [← hnn, way_get hok (by omega)] at hx1
 simp only [Option.some.injEq] at hx1
 obtain ⟨b, hb⟩ : ∃ b, (walkM t0 (p.take nn)).kids[(2 + (walkM t0 p).num).toNat]? = some b := by
  rw [hx1];exact ⟨_, List.getElem?_eq_getElem (by omega)⟩
 have e : doesM ts t0 p 6 = fillM (wayM t0 p) p 0 nn (putM [v, backM t0 p nn] 0 b) := by
  simp only [doesM, doM, ← hnn, hv, hb]; rfl
 rw [e];exact do_c t0 p hok hN nn v b (by omega) hnp ⟨hnum.1, by omega⟩ hv hb
theorem does7_c {ts : List KT} {t0 : Tm} {p : List Nat} (hs : shT t0) (hok : okP t0 p) (hN : tsize t0 < 2^28) (hk : kindM ts t0 p = 7) : HCall Tryz.prog G 152 [.pu (siteP p (wayM t0 p)), .ptr 836 [] 36] [(836, .var 36 (fV 162))] [] (.pu (tmc 0 (doesM ts t0 p 7))) [] [] := by
 have h12 := (kind_inv hk).2.2.2.2.2.2.1 rfl
 have hw := sh_walk (p := p) hs
 obtain ⟨x, y, hx, hy⟩ := len12 hw h12
 have hsz := walk_size (t := t0) (p := p)
 have e : doesM ts t0 p 7 = hereM t0 p (putM [x] 0 y) := by simp [doesM, letM, hx, hy]
 rw [e];exact here836_c _ (by kernel_rfl) t0 p hok hN _ ((byRet_c (walkM t0 p) x y hx hy (by omega)).at (lowAt _))
theorem sh_prim (op a b : Int) : shT (primM op a b) := sh_nat _
theorem sh_bod {s : List Int} {y : Tm} : ∀ {ts : List KT}, (∀ x ∈ ts, shT x.2) → bodM s ts = some y → shT y
 | [], _, h => by cases h
 | x :: ts, h, hy => by
  simp only [bodM] at hy
  split at hy
  ·simp at hy; rw [← hy]; exact h x (by simp)
  ·exact sh_bod (fun z hz => h z (by simp [hz])) hy
theorem sz_bod {s : List Int} {y : Tm} {B : Nat} : ∀ {ts : List KT}, (∀ x ∈ ts, tsize x.2 ≤ B) → bodM s ts = some y → tsize y ≤ B
 | [], _, h => by cases h
 | x :: ts, h, hy => by
  simp only [bodM] at hy
  split at hy
  ·simp at hy; rw [← hy]; exact h x (by simp)
  ·exact sz_bod (fun z hz => h z (by simp [hz])) hy
theorem does_sh {ts : List KT} (hb : ∀ x ∈ ts, shT x.2) {t0 : Tm} {p : List Nat} (hs : shT t0) (hok : okP t0 p) (k : Int) : shT (doesM ts t0 p k) := by
 have hw := sh_walk (p := p) hs
 have here : ∀ y, shT y → shT (hereM t0 p y) := fun y hy => sh_fill hok hs 0 _ _ (Nat.le_refl _) hy
 have hput : ∀ x y, shT x → shT y → shT (putM [x] 0 y) := fun x y hx hy => sh_put _ (fun v hv => by simp at hv; rw [hv]; exact hx) _ _ hy
 have hlet : shT (letM (walkM t0 p)) := by
  unfold letM
  split
  ·rename_i x b h1 h2; exact hput _ _ (sh_kid hw h1) (sh_kid hw h2)
  ·exact sh_none
 unfold doesM
 split
 ·refine here _ ?_
  unfold appM
  split
  ·rename_i f x h1 h2
   split
   ·rename_i b h3; exact hput _ _ (sh_kid hw h2) (sh_kid (sh_kid hw h1) h3)
   ·exact sh_none
  ·exact sh_none
 split
 ·exact here _ hlet
 split
 ·refine here _ ?_
  cases hy : bodM (walkM t0 p).ref ts with
  | none => exact sh_none
  | some y => exact sh_bod hb hy
 split
 ·refine here _ ?_
  unfold priM
  split
  ·exact sh_prim _ _ _
  ·exact sh_none
 split
 ·refine here _ ?_
  unfold matM
  split
  ·rename_i v hv
   have hv' := sh_kid hw hv
   generalize walkM t0 p = w at hw
   obtain ⟨k, n, r, ks, cs⟩ := w
   exact sh_match _ _ hw.2.2.2 hv'
  ·exact sh_none
 split
 ·unfold doM
  split
  ·rename_i a b h1 h2
   have hlt := hand_lt (wayM t0 p) (walkM t0 p).ref p.length
   refine sh_fill hok hs 0 _ _ (by omega) (sh_put _ (fun v hv => ?_) _ _ (sh_kid (sh_walk hs) h2))
   simp at hv
   rcases hv with rfl | rfl
   ·exact sh_kid hw h1
   ·refine ⟨by simp [kidsM], fun e => (by cases e), ⟨sh_fill hok hs _ _ _ (Nat.le_refl _) sh_var, trivial⟩, trivial⟩
  ·exact sh_none
 ·exact here _ hlet
theorem does_sz {ts : List KT} (hb : ∀ x ∈ ts, tsize x.2 ≤ 300) {t0 : Tm} {p : List Nat} (hok : okP t0 p) (hN : tsize t0 ≤ 3000) (k : Int) : tsize (doesM ts t0 p k) ≤ 9012000 := by
 have hw := walk_size (t := t0) (p := p)
 have hn1 : tsize noneM = 1 := by simp [noneM, tsize, tsizeL, csizeL]
 have here : ∀ y, tsize y ≤ 9009000 → tsize (hereM t0 p y) ≤ 9012000 := fun y hy => by
  have := fill_size hok 0 p.length y (Nat.le_refl _)
  unfold hereM; omega
 have hput : ∀ (vs : List Tm) y, (∀ v ∈ vs, tsize v ≤ 3002) → tsize y ≤ 3000 → tsize (putM vs 0 y) ≤ 9009000 := fun vs y hv hy => by
  have h1 := put_size vs 3002 hv y 0
  have h2 : tsize y * (1 + 3002) ≤ 9009000 := by omega
  omega
 have hlet : tsize (letM (walkM t0 p)) ≤ 9009000 := by
  unfold letM
  split
  ·rename_i x b h1 h2
   have := kid_size h1; have := kid_size h2
   exact hput _ _ (fun v hv => by simp at hv; subst hv; omega) (by omega)
  ·omega
 unfold doesM
 split
 ·refine here _ ?_
  unfold appM
  split
  ·rename_i f x h1 h2
   split
   ·rename_i b h3
    have := kid_size h1; have := kid_size h2; have := kid_size h3
    exact hput _ _ (fun v hv => by simp at hv; subst hv; omega) (by omega)
   ·omega
  ·omega
 split
 ·exact here _ hlet
 split
 ·refine here _ ?_
  cases hy : bodM (walkM t0 p).ref ts with
  | none => simp only [Option.getD]; omega
  | some y => have := sz_bod hb hy; simp only [Option.getD]; omega
 split
 ·refine here _ ?_
  unfold priM
  split
  ·simp [primM, natM, tsize, tsizeL, csizeL]
  ·omega
 split
 ·refine here _ ?_
  unfold matM
  split
  ·rename_i v hv
   have h1 := kid_size hv
   have h2 := match_size (walkM t0 p).cases v
   have h3 : 1 + csizeL (walkM t0 p).cases ≤ 3000 := by
    generalize walkM t0 p = w at hw
    obtain ⟨k, n, r, ks, cs⟩ := w
    simp only [tsize] at hw
    simp only [Tm.cases]; omega
   have h4 : (1 + csizeL (walkM t0 p).cases) * (1 + tsize v) ≤ 9009000 := by
    have := Nat.mul_le_mul h3 (show 1 + tsize v ≤ 3001 by omega)
    omega
   omega
  ·omega
 split
 ·unfold doM
  split
  ·rename_i a b h1 h2
   have hlt := hand_lt (wayM t0 p) (walkM t0 p).ref p.length
   have k1 := kid_size h1
   have k2 := kid_size h2
   have k3 := walk_size (t := t0) (p := p.take (handM (wayM t0 p) (walkM t0 p).ref p.length).toNat)
   have k4 := fill_size hok (handM (wayM t0 p) (walkM t0 p).ref p.length).toNat p.length varM (Nat.le_refl _)
   have hsv : tsize varM = 1 := by simp [varM, tsize, tsizeL, csizeL]
   have k5 := hput [a, backM t0 p (handM (wayM t0 p) (walkM t0 p).ref p.length).toNat] b (fun v hv => by
    simp at hv
    rcases hv with rfl | rfl
    ·omega
    ·simp only [backM, tsize, tsizeL, csizeL]; omega) (by omega)
   have k6 := fill_size hok 0 (handM (wayM t0 p) (walkM t0 p).ref p.length).toNat (putM [a, backM t0 p (handM (wayM t0 p) (walkM t0 p).ref p.length).toNat] 0 b) (by omega)
   omega
  ·omega
 ·exact here _ hlet
end Go.Proofs.YtkcgkignhpepkaaGreatDoor

/- Runs. -/
namespace Go.Proofs.YtkcgkignhpepkaaGreatDoor
open Go Hs
variable {G : List (Nat × TypeId × Pu)}
theorem right_c (t : Tm) (hN : tsize t < 2^40) : FCall Tryz.prog G 113 [.pu (tmc 0 t)] (bv (checkM t 60 8 == 0)) := by
 refine FCall.of_tri tbl 6 Tryz.func113 rfl rfl rfl fun w0 M ρ0 D0 => ?_
 refine yR ?_;refine s_box SS 1 ?_;refine yB ?_;refine e_seqN [1] ?_;refine Y4 ?_;refine s_val (v_callD (fun _ => check_c t hN 60 8)) ?_;refine yI ?_;refine Y2 ?_;exact Tri.ret ⟨.inr rfl, ret1 rfl resV_tmp (ToPu.imp (by repeat constructor))⟩
structure EndM where
 kind : Int
 steps : Int
 term : Tm
 ref : List Int
 num : Int
def endP (e : EndM) : Pu := .agg 65 [.leaf (.int .i64 e.kind), .leaf (.int .i64 e.steps), tmc 0 e.term, refP e.ref, .leaf (.int .i64 e.num)]
instance (e : EndM) : TyV Tryz.prog 65 (.pu (endP e)) := inferInstanceAs (TyV Tryz.prog 65 (.pu (.agg _ _)))
def endZ : EndM := ⟨0, 0, noneM, Z32, 0⟩
def ranE (ts : List KT) (steps : Nat) (t : Tm) : Option EndM :=
 if valM t then some ⟨0, steps, t, Z32, 0⟩
 else if kindM ts t (placeM t) = 9 then some ⟨9, steps, ((walkM t (placeM t)).kids[0]?).getD noneM, (walkM t (placeM t)).ref, (walkM t (placeM t)).num⟩
 else if kindM ts t (placeM t) = 8 then some ⟨8, steps, noneM, Z32, 0⟩ else none
def nextM (ts : List KT) (t : Tm) : Tm := doesM ts t (placeM t) (kindM ts t (placeM t))
def ranM (ts : List KT) : Nat → Nat → Tm → EndM × Int
 | 0, steps, t => match ranE ts steps t with
  | some e => (e, 0)
  | none => (⟨10, steps, noneM, Z32, 0⟩, 0)
 | left + 1, steps, t => match ranE ts steps t with
  | some e => (e, 0)
  | none => if (longT 3000 200 1 0 (nextM ts t)).1 then (endZ, 12) else ranM ts left (steps + 1) (nextM ts t)
theorem ran_some {ts : List KT} {left steps : Nat} {t : Tm} {e : EndM} (h : ranE ts steps t = some e) : ranM ts left steps t = (e, 0) := by
 cases left <;> simp only [ranM, h]
abbrev ranV (x : EndM × Int) : PV := .tup [.pu (endP x.1), iv .i64 x.2]
set_option maxHeartbeats 4000000 in
theorem ran_c (a b : Pu) (ts : List KT) (hnd : (ts.map (·.1)).Nodup) (hl : ts.length < 2^40) (hbs : ∀ x ∈ ts, shT x.2) (hbz : ∀ x ∈ ts, tsize x.2 ≤ 300) (t0 : Tm) (hs0 : shT t0) (hz0 : tsize t0 ≤ 3000) (fuel : Nat) (hf : fuel ≤ 2000) :
  FCall Tryz.prog G 112 [.pu (wdP a b ts), .pu (tmc 0 t0), iv .i64 fuel] (ranV (ranM ts fuel 0 t0)) := by
 refine FCall.of_tri tbl 73 Tryz.func112 rfl rfl rfl fun w0 M ρ0 D0 => ?_
 refine Tri.fact (i := 0) rfl (fun D w x h => wd_wf h) (fun hts => ?_);refine yR ?_;refine s_box SS 3 ?_;refine s_box SS 4 ?_;refine s_alloc SS 6 ?_;refine yB ?_;refine e_seqN [3, 4, 6] ?_;refine Y4 ?_;refine s_call (opened_c a b ts hnd hl) ?_;refine yA ?_;refine e_seqN [822, 820, 823, 831, 832, 833, 834, 835, 836] ?_;refine Y11 ?_;refine Y33 ?_
 refine Tri.block (Tri.loopW (σ := {q : Nat × Tm // q.1 ≤ fuel ∧ ranM ts fuel 0 t0 = ranM ts (fuel - q.1) q.1 q.2 ∧ shT q.2 ∧ tsize q.2 ≤ 3000}) (fun i => ⟨[(2, iv .i64 fuel), (4, .ptr 4 [] 32), (6, .ptr 6 [] 65), (8, .ptr 820 [] 181), (17, iv .i64 (fuel + 1)), (18, iv .i64 i.1.1)], [(4, .var 32 (.pu (tmc 0 i.1.2))), (6, .var 65 (.agg 65 [iv .i64 0, iv .i64 0, .agg 32 [iv .i64 0, iv .i64 0, .pu (refP Z32), .nilc, .nilc], .pu (refP Z32), iv .i64 0]))] ++ ruO a b ts⟩) (fun i => fuel - i.1.1) ⟨(0, t0), Nat.zero_le _, rfl, hs0, hz0⟩ ?_ ?_ (fun i => ?_))
 ·repeat (first | exact .nil | refine .cons rfl (by first | exact .refl | (focus ((repeat constructor); done)) | (rw [wrap64 (by omega) (by omega)]; exact .refl)) ?_)
 ·repeat (first | exact .nil | refine .cons rfl (by first | exact .refl | (focus ((repeat constructor); done)) | (rw [wrap64 (by omega) (by omega)]; exact .refl)) ?_)
 refine Y31 ?_;refine Tri.cond rfl (fun h0 => ?_) (fun h0 => ?_)
 ·skip
  obtain ⟨⟨st, t⟩, hst, hrn, hsh, hsz⟩ := i
  dsimp only at hst hrn hsh hsz ⊢
  have hok := place_ok hsh
  have hN : tsize t < 2^28 := by omega
  have hwl := way_len hok
  have hat := at_c (G := G) (placeM t) (wayM t (placeM t)) (by omega)
  have hwg := way_get hok (Nat.le_refl (placeM t).length)
  rw [List.take_length, List.getElem?_eq_getElem (by omega)] at hwg
  simp only [Option.some.injEq] at hwg
  rw [hwg] at hat
  have hwsh := sh_walk (p := placeM t) hsh
  have hkc := kind_c (G := G) a b ts hts t (placeM t) hok hN (by generalize walkM t (placeM t) = w at hwsh; obtain ⟨k, n, r, ks, cs⟩ := w; exact hwsh.1) (by generalize walkM t (placeM t) = w at hwsh; obtain ⟨k, n, r, ks, cs⟩ := w; exact hwsh.2.1)
  have hki := kind_inv (show kindW ts (wayM t (placeM t)) (placeM t).length (walkM t (placeM t)) = kindM ts t (placeM t) from rfl)
  generalize hkk : kindM ts t (placeM t) = kk at hkc hki
  refine Tri.skip ?_;refine tQ ?_;refine Tri.block ?_;refine Y63 ?_;refine Y4 ?_;refine s_val (v_callD (fun _ => value_c _ t (Nat.le_refl _) (by omega))) ?_;refine Y0 ?_;refine Tri.cond rfl (fun h1 => ?_) (fun h1 => ?_)
  ·skip
   have hfin : ranM ts fuel 0 t0 = (⟨0, st, t, Z32, 0⟩, 0) := by rw [hrn]; exact ran_some (by simp only [ranE, h1, if_true])
   refine Y32 ?_;refine yP ?_;refine Y59 ?_;exact Tri.ret ⟨.inr rfl, ret2 rfl resV_cell ((by rw [hfin]; exact ToPu.imp (by repeat constructor))) resV_tmp ((by rw [hfin]; exact VImp.refl _))⟩
  ·skip
   have hv : ¬ valM t = true := by rw [h1]; decide
   refine Tri.skip ?_;refine Y4 ?_;refine s_val (v_callD (fun _ => found_c t hsh (by omega))) ?_;refine s_alloc SS 10 ?_;refine yS ?_;refine e_seqN [10] ?_;refine Y32 ?_;refine s_val (v_callO (fun _ => hkc)) ?_;refine Y14 ?_;refine Y4 ?_;refine s_val (v_callD (fun _ => hat)) ?_;refine s_alloc SS 12 ?_;refine yS ?_;refine e_seqN [12] ?_;refine tQ ?_;refine Tri.block ?_;refine Y38 ?_;refine Tri.cond rfl (fun h2 => ?_) (fun h2 => ?_)
   ·skip
    have h9 : kk = 9 := by simpa using h2
    obtain ⟨x, hx⟩ := len1 hwsh (.inr (.inr (hki.2.2.2.2.2.2.2.2 h9)))
    have hfin : ranM ts fuel 0 t0 = (⟨9, st, x, (walkM t (placeM t)).ref, (walkM t (placeM t)).num⟩, 0) := by rw [hrn]; exact ran_some (by simp only [ranE, if_neg hv, hkk, h9, if_true, hx, Option.getD])
    generalize walkM t (placeM t) = w at hx hfin ⊢
    obtain ⟨k, n, r, ks, cs⟩ := w
    simp only [kids_mk, ref_mk, num_mk] at hx hfin
    have hxg : (tmsc 0 ks)[0]? = some (tmc 0 x) := by simp [tms_eq, hx]
    refine Y1 ?_;refine Y9 ?_;refine s_val (v_index SS (h0 := by omega) (hp := hxg)) ?_;refine yL ?_;refine Y3 ?_;refine Y3 ?_;refine yP ?_;refine yS ?_;refine yB ?_;refine Y18 ?_;exact Tri.ret ⟨.inr rfl, ret2 rfl resV_cell ((by rw [hfin]; exact ToPu.imp (by repeat constructor))) resV_tmp ((by rw [hfin]; exact VImp.refl _))⟩
   ·skip
    have h9 : ¬ kk = 9 := by simpa using h2
    refine Y38 ?_;refine Tri.cond rfl (fun h3 => ?_) (fun h3 => ?_)
    ·skip
     have h8 : kk = 8 := by simpa using h3
     have hfin : ranM ts fuel 0 t0 = (⟨8, st, noneM, Z32, 0⟩, 0) := by rw [hrn]; exact ran_some (by simp only [ranE, if_neg hv, hkk, h8]; rfl)
     refine Y1 ?_;refine yP ?_;refine Y59 ?_;exact Tri.ret ⟨.inr rfl, ret2 rfl resV_cell ((by rw [hfin]; exact ToPu.imp (by unfold noneM; repeat constructor))) resV_tmp ((by rw [hfin]; exact VImp.refl _))⟩
    ·skip
     have h8 : ¬ kk = 8 := by simpa using h3
     have hre : ranE ts st t = none := by simp only [ranE, if_neg hv, hkk, if_neg h9, if_neg h8]
     refine Y29 ?_;refine yI ?_;refine Y2 ?_;refine Tri.cond rfl (fun h4 => ?_) (fun h4 => ?_)
     ·skip
      have hsf : st = fuel := by simp at h4; omega
      have hfin : ranM ts fuel 0 t0 = (⟨10, st, noneM, Z32, 0⟩, 0) := by rw [hrn, show fuel - st = 0 by omega]; simp only [ranM, hre]
      refine Y1 ?_;refine yP ?_;refine Y59 ?_;exact Tri.ret ⟨.inr rfl, ret2 rfl resV_cell ((by rw [hfin]; exact ToPu.imp (by unfold noneM; repeat constructor))) resV_tmp ((by rw [hfin]; exact VImp.refl _))⟩
     ·skip
      have hsf : st < fuel := by simp at h4; omega
      obtain ⟨lf, hlf⟩ : ∃ lf, fuel - st = lf + 1 := ⟨fuel - st - 1, by omega⟩
      rw [hlf] at hrn
      simp only [ranM, hre] at hrn
      have hk19 := hki.2.2.2.2.2.2.2.1
      clear hki
      have hnx : nextM ts t = doesM ts t (placeM t) kk := by unfold nextM; rw [hkk]
      have hys := does_sh hbs hsh hok kk
      have hyz := does_sz hbz hok hsz kk
      rw [← hnx] at hys hyz
      obtain rfl | rfl | rfl | rfl | rfl | rfl | rfl : kk = 1 ∨ kk = 2 ∨ kk = 3 ∨ kk = 4 ∨ kk = 5 ∨ kk = 6 ∨ kk = 7 := by omega
      all_goals
       refine Tri.skip ?_;refine Y29 ?_;refine Y50 ?_;refine s_val (v_ixo SS) ?_;refine yL ?_;refine Y14 ?_;refine Y32 ?_
       first | refine s_val (v_callO (fun _ => does1_c hsh hok hN hkk)) ?_ | refine s_val (v_callO (fun _ => does2_c hsh hok hN hkk)) ?_ | refine s_val (v_callO (fun _ => does3_c a b hts hok hN hkk)) ?_ | refine s_val (v_callO (fun _ => does4_c hsh hok hN hkk)) ?_ | refine s_val (v_callO (fun _ => does5_c hsh hok hN hkk)) ?_ | refine s_val (v_callO (fun _ => does6_c hsh hok hN hkk)) ?_ | refine s_val (v_callO (fun _ => does7_c hsh hok hN hkk)) ?_
       refine Y17 ?_;rw [← hnx];refine Y58 ?_;refine s_box SS 91 ?_;refine yL ?_;refine s_call (grT_c _ (nextM ts t) (Nat.le_refl _) (by omega) 1 0 (by omega) (by omega)) ?_;refine e_seqN [91] ?_;refine tQ ?_;refine Tri.cond rfl (fun h5 => ?_) (fun h5 => ?_)
       ·skip
        have hfin : ranM ts fuel 0 t0 = (endZ, 12) := by rw [hrn, if_pos h5]
        refine Y58 ?_;refine Y59 ?_;exact Tri.ret ⟨.inr rfl, ret2 rfl resV_cell ((by rw [hfin]; exact ToPu.imp (by unfold endZ noneM; repeat constructor))) resV_tmp ((by rw [hfin]; exact VImp.refl _))⟩
       ·skip
        have hnext : ranM ts fuel 0 t0 = ranM ts (fuel - (st + 1)) (st + 1) (nextM ts t) := by rw [hrn, if_neg (by rw [h5]; decide), show fuel - (st + 1) = lf by omega]
        have hls := long_size (mn := 3000) (md := 200) (t := nextM ts t) (d := 1) (c := 0) (by omega) h5
        have hszy : tsize (nextM ts t) ≤ 3000 := by omega
        have hshy := hys
        refine Tri.skip ?_;refine Y27 ?_
        refine ⟨⟨(st + 1, nextM ts t), by show st + 1 ≤ fuel; omega, hnext, hshy, hszy⟩, by show fuel - (st + 1) < fuel - st; omega, le_of ?_ ?_⟩
        ·exact zE
        ·exact zH
 ·exfalso
  have := i.2.1
  simp at h0
  omega
end Go.Proofs.YtkcgkignhpepkaaGreatDoor

/- step.Run. -/
namespace Go.Proofs.YtkcgkignhpepkaaGreatDoor
open Go Hs
variable {G : List (Nat × TypeId × Pu)}
theorem firstE_zero {α : Type} {f : α → Int} : ∀ {l : List α}, firstE f l = 0 → ∀ x ∈ l, f x = 0
 | [], _, x, h => by cases h
 | a :: l, h, x, hx => by
  simp only [firstE] at h
  split at h
  ·rename_i h0
   rcases List.mem_cons.1 hx with rfl | hx
   ·exact h0
   ·exact firstE_zero h x hx
  ·contradiction
theorem stepCheck_ok {ts : List KT} {t : Tm} (h : stepCheckM ts t = 0) : ts.length ≤ 40 ∧ (∀ x ∈ ts, checkM x.2 0 0 = 0) ∧ (ts.map (·.1)).Nodup ∧ checkM t 0 0 = 0 := by
 unfold stepCheckM at h
 split at h
 ·cases h
 ·rename_i h1
  obtain ⟨h2, h3⟩ := orE_zero h
  split at h3
  ·cases h3
  ·rename_i h4
   exact ⟨by simp at h1; omega, firstE_zero h2, by simpa [dupM] using h4, h3⟩
theorem ranE_inv {ts : List KT} {steps : Nat} {t : Tm} {e : EndM} (hs : shT t) (h : ranE ts steps t = some e) : shT e.term ∧ tsize e.term ≤ tsize t := by
 have hn1 : tsize noneM = 1 := by simp [noneM, tsize, tsizeL, csizeL]
 have hp := tsize_pos t
 unfold ranE at h
 split at h
 ·simp at h; subst h; exact ⟨hs, Nat.le_refl _⟩
 ·split at h
  ·simp at h; subst h
   simp only
   cases hk : (walkM t (placeM t)).kids[0]? with
   | none => exact ⟨sh_none, by simp only [Option.getD]; omega⟩
   | some x =>
    have h1 := kid_size hk
    have h2 := walk_size (t := t) (p := placeM t)
    exact ⟨sh_kid (sh_walk hs) hk, by simp only [Option.getD]; omega⟩
  ·split at h
   ·simp at h; subst h; exact ⟨sh_none, by simp only; omega⟩
   ·cases h
theorem ran_inv {ts : List KT} (hbs : ∀ x ∈ ts, shT x.2) : ∀ (left steps : Nat) (t : Tm), shT t → tsize t ≤ 3000 → shT (ranM ts left steps t).1.term ∧ tsize (ranM ts left steps t).1.term ≤ 3000
 | 0, steps, t, hs, hz => by
  have hn1 : tsize noneM = 1 := by simp [noneM, tsize, tsizeL, csizeL]
  simp only [ranM]
  split
  ·rename_i e he
   have := ranE_inv hs he
   exact ⟨this.1, Nat.le_trans this.2 hz⟩
  ·exact ⟨sh_none, by simp only; omega⟩
 | left + 1, steps, t, hs, hz => by
  have hn1 : tsize noneM = 1 := by simp [noneM, tsize, tsizeL, csizeL]
  simp only [ranM]
  split
  ·rename_i e he
   have := ranE_inv hs he
   exact ⟨this.1, Nat.le_trans this.2 hz⟩
  ·split
   ·exact ⟨sh_none, by simp only [endZ]; omega⟩
   ·rename_i hg
    have hls := long_size (mn := 3000) (md := 200) (t := nextM ts t) (d := 1) (c := 0) (by omega) (by simpa using hg)
    exact ran_inv hbs left (steps + 1) (nextM ts t) (does_sh hbs hs (place_ok hs) _) (by omega)
def runM (ts : List KT) (t : Tm) (fuel : Int) : EndM × Int :=
 if stepCheckM ts t = 0 then
  if fuel < 0 ∨ 2000 < fuel then (endZ, 3)
  else if (ranM ts fuel.toNat 0 t).2 = 0 then
   if (ranM ts fuel.toNat 0 t).1.kind ≠ 0 ∧ (ranM ts fuel.toNat 0 t).1.kind ≠ 9 then ((ranM ts fuel.toNat 0 t).1, 0)
   else if checkM (ranM ts fuel.toNat 0 t).1.term 60 8 = 0 then ((ranM ts fuel.toNat 0 t).1, 0) else (endZ, 11)
  else (endZ, (ranM ts fuel.toNat 0 t).2)
 else (endZ, stepCheckM ts t)
set_option maxHeartbeats 1000000 in
theorem run_c (a b : Pu) (ts : List KT) (t : Tm) (fuel : Int) (hts : ∀ x ∈ ts, tsize x.2 < 2^40) (hN : tsize t < 2^40) : FCall Tryz.prog G 35 [.pu (wdP a b ts), .pu (tmc 0 t), iv .i64 fuel] (ranV (runM ts t fuel)) := by
 refine FCall.of_tri tbl 58 Tryz.func35 rfl rfl rfl fun w0 M ρ0 D0 => ?_
 refine yR ?_;refine s_box SS 3 ?_;refine s_box SS 4 ?_;refine s_alloc SS 6 ?_;refine yB ?_;refine e_seqN [3, 4, 6] ?_;refine Y36 ?_;refine s_val (v_callD (fun _ => stepCheck_c a b ts t hts hN)) ?_;refine Y14 ?_;refine Y61 ?_;refine Tri.cond rfl (fun h0 => ?_) (fun h0 => ?_)
 ·skip
  have h0' : ¬ stepCheckM ts t = 0 := by simpa using h0
  have hfin : runM ts t fuel = (endZ, stepCheckM ts t) := by simp only [runM, if_neg h0']
  refine Y58 ?_;refine yM ?_;refine yS ?_;refine Y2 ?_;exact Tri.ret ⟨.inr rfl, ret2 rfl resV_cell ((by rw [hfin]; exact ToPu.imp (by unfold endZ noneM; repeat constructor))) resV_tmp ((by rw [hfin]; exact VImp.refl _))⟩
 ·skip
  have h0' : stepCheckM ts t = 0 := by simpa using h0
  obtain ⟨k1, k2, k3, k4⟩ := stepCheck_ok h0'
  obtain ⟨k5, k6⟩ := check_sh k4
  refine Tri.skip ?_;refine Y11 ?_;refine Y22 ?_;refine Y24 ?_;refine Y0 ?_;refine Tri.cond rfl (fun h1 => ?_) (fun h1 => ?_)
  ·skip
   have h1' : fuel < 0 ∨ 2000 < fuel := by simpa using h1
   have hfin : runM ts t fuel = (endZ, 3) := by simp only [runM, if_pos h0', if_pos h1']
   refine Y58 ?_;refine Y59 ?_;exact Tri.ret ⟨.inr rfl, ret2 rfl resV_cell ((by rw [hfin]; exact ToPu.imp (by unfold endZ noneM; repeat constructor))) resV_tmp ((by rw [hfin]; exact VImp.refl _))⟩
  ·skip
   have h1' : ¬ (fuel < 0 ∨ 2000 < fuel) := by simp at h1; omega
   obtain ⟨fl, hfl⟩ : ∃ fl : Nat, fuel = fl := ⟨fuel.toNat, by omega⟩
   subst hfl
   have hran := ran_c (G := G) a b ts k3 (by omega) (fun x hx => (check_sh (k2 x hx)).1) (fun x hx => (check_sh (k2 x hx)).2) t k5 (by omega) fl (by omega)
   have hinv := ran_inv (ts := ts) (fun x hx => (check_sh (k2 x hx)).1) fl 0 t k5 (by omega)
   have hrun : runM ts t fl = if (ranM ts fl 0 t).2 = 0 then (if (ranM ts fl 0 t).1.kind ≠ 0 ∧ (ranM ts fl 0 t).1.kind ≠ 9 then ((ranM ts fl 0 t).1, 0) else if checkM (ranM ts fl 0 t).1.term 60 8 = 0 then ((ranM ts fl 0 t).1, 0) else (endZ, 11)) else (endZ, (ranM ts fl 0 t).2) := by simp only [runM, if_pos h0', if_neg h1', Int.toNat_natCast]
   generalize ranM ts fl 0 t = res at hran hinv hrun
   obtain ⟨⟨ek, es, et, er, en⟩, err⟩ := res
   simp only at hinv hrun
   refine Tri.skip ?_;refine Y36 ?_;refine yM ?_;refine s_val (v_callD (fun _ => hran)) ?_;refine Y46 ?_;refine s_alloc SS 9 ?_;refine Y48 ?_;refine e_seqN [9] ?_;refine tQ ?_;refine Tri.block ?_;refine Y38 ?_;refine Tri.cond rfl (fun h2 => ?_) (fun h2 => ?_)
   ·skip
    have h2' : ¬ err = 0 := by simpa using h2
    rw [if_neg h2'] at hrun
    refine Y58 ?_;refine yM ?_;refine yS ?_;refine Y2 ?_;exact Tri.ret ⟨.inr rfl, ret2 rfl resV_cell ((by rw [hrun]; exact ToPu.imp (by unfold endZ noneM; repeat constructor))) resV_tmp ((by rw [hrun]; exact VImp.refl _))⟩
   ·skip
    have h2' : err = 0 := by simpa using h2
    rw [if_pos h2'] at hrun
    refine Y65 ?_;refine Y19 ?_;refine Y2 ?_;refine Tri.cond rfl (fun h3 => ?_) (fun h3 => ?_)
    ·skip
     have h3' : ek ≠ 0 ∧ ek ≠ 9 := by simpa using h3
     rw [if_pos h3'] at hrun
     refine Y4 ?_;refine Y59 ?_;exact Tri.ret ⟨.inr rfl, ret2 rfl resV_cell ((by rw [hrun]; exact VImp.refl _)) resV_tmp ((by rw [hrun]; exact VImp.refl _))⟩
    ·skip
     have h3' : ¬ (ek ≠ 0 ∧ ek ≠ 9) := by simpa using h3
     rw [if_neg h3'] at hrun
     refine Y16 ?_;refine s_val (v_callD (fun _ => right_c et (by omega))) ?_;refine yQ ?_;refine Y2 ?_;refine Tri.cond rfl (fun h4 => ?_) (fun h4 => ?_)
     ·skip
      have h4' : ¬ checkM et 60 8 = 0 := by simpa using h4
      rw [if_neg h4'] at hrun
      refine Y58 ?_;refine Y59 ?_;exact Tri.ret ⟨.inr rfl, ret2 rfl resV_cell ((by rw [hrun]; exact ToPu.imp (by unfold endZ noneM; repeat constructor))) resV_tmp ((by rw [hrun]; exact VImp.refl _))⟩
     ·skip
      have h4' : checkM et 60 8 = 0 := by simpa using h4
      rw [if_pos h4'] at hrun
      refine Tri.skip ?_;refine Y16 ?_;refine s_val (v_callD (fun _ => (own_c et (by omega)).at (lowAt _))) ?_;refine yF ?_;refine Y17 ?_;refine Y4 ?_;refine Y59 ?_;exact Tri.ret ⟨.inr rfl, ret2 rfl resV_cell ((by rw [hrun]; exact VImp.refl _)) resV_tmp ((by rw [hrun]; exact VImp.refl _))⟩
end Go.Proofs.YtkcgkignhpepkaaGreatDoor

/- step.Next. -/
namespace Go.Proofs.YtkcgkignhpepkaaGreatDoor
open Go Hs
variable {G : List (Nat × TypeId × Pu)}
def stepNextM (ts : List KT) (t : Tm) : Int × List Nat × Int :=
 if stepCheckM ts t = 0 then (if valM t then (0, [], 0) else (kindM ts t (placeM t), placeM t, 0)) else (0, [], stepCheckM ts t)
abbrev nextV (x : Int × List Nat × Int) : PV := .tup [iv .i64 x.1, .pu (.sl 0 3 (pathL x.2.1)), iv .i64 x.2.2]
theorem stepNext_c (a b : Pu) (ts : List KT) (t : Tm) (hts : ∀ x ∈ ts, tsize x.2 < 2^40) (hN : tsize t < 2^40) : FCall Tryz.prog G 18 [.pu (wdP a b ts), .pu (tmc 0 t)] (nextV (stepNextM ts t)) := by
 refine FCall.of_tri tbl 25 Tryz.func18 rfl rfl rfl fun w0 M ρ0 D0 => ?_
 refine Tri.fact (i := 0) rfl (fun D w x h => wd_wf h) (fun hwd => ?_);refine yR ?_;refine s_box SS 2 ?_;refine s_box SS 3 ?_;refine yB ?_;refine yB ?_;refine yB ?_;refine e_seqN [2, 3] ?_;refine Y36 ?_;refine s_val (v_callD (fun _ => stepCheck_c a b ts t hts hN)) ?_;refine Y14 ?_;refine Y61 ?_;refine Tri.cond rfl (fun h0 => ?_) (fun h0 => ?_)
 ·skip
  have h0' : ¬ stepCheckM ts t = 0 := by simpa using h0
  have hfin : stepNextM ts t = (0, [], stepCheckM ts t) := by simp only [stepNextM, if_neg h0']
  refine Y1 ?_;refine yB ?_;refine yB ?_;refine Y2 ?_;exact Tri.ret ⟨.inr rfl, ret3 rfl resV_tmp ((by rw [hfin]; exact VImp.refl _)) resV_tmp ((by rw [hfin]; exact ToPu.imp (by repeat constructor))) resV_tmp ((by rw [hfin]; exact VImp.refl _))⟩
 ·skip
  have h0' : stepCheckM ts t = 0 := by simpa using h0
  obtain ⟨k1, k2, k3, k4⟩ := stepCheck_ok h0'
  obtain ⟨k5, k6⟩ := check_sh k4
  refine Tri.skip ?_;refine Y4 ?_;refine s_val (v_callD (fun _ => value_c _ t (Nat.le_refl _) (by omega))) ?_;refine Y0 ?_;refine Tri.cond rfl (fun h1 => ?_) (fun h1 => ?_)
  ·skip
   have hfin : stepNextM ts t = (0, [], 0) := by simp only [stepNextM, if_pos h0', h1, if_true]
   refine Y6 ?_;refine yB ?_;refine Y42 ?_;exact Tri.ret ⟨.inr rfl, ret3 rfl resV_tmp ((by rw [hfin]; exact VImp.refl _)) resV_tmp ((by rw [hfin]; exact ToPu.imp (by repeat constructor))) resV_tmp ((by rw [hfin]; exact VImp.refl _))⟩
  ·skip
   have hfin : stepNextM ts t = (kindM ts t (placeM t), placeM t, 0) := by simp only [stepNextM, if_pos h0', h1, Bool.false_eq_true, if_false]
   have hok := place_ok k5
   have hN' : tsize t < 2^28 := by omega
   have hwsh := sh_walk (p := placeM t) k5
   have hkc := kind_c (G := G) a b ts hwd t (placeM t) hok hN' (by generalize walkM t (placeM t) = w at hwsh; obtain ⟨k, n, r, ks, cs⟩ := w; exact hwsh.1) (by generalize walkM t (placeM t) = w at hwsh; obtain ⟨k, n, r, ks, cs⟩ := w; exact hwsh.2.1)
   refine Tri.skip ?_;refine Y4 ?_;refine s_val (v_callD (fun _ => found_c t k5 (by omega))) ?_;refine s_alloc SS 8 ?_;refine yS ?_;refine e_seqN [8] ?_;refine Y4 ?_;refine s_call (opened_c a b ts k3 (by omega)) ?_;refine yL ?_;refine s_val (v_callO (fun _ => hkc)) ?_;refine Y9 ?_;refine yA ?_;refine yA ?_;refine yB ?_;refine e_drawN [822, 820, 823, 831, 832, 833, 834, 835, 836] ?_;refine tQ ?_;exact Tri.ret ⟨.inr rfl, ret3 rfl resV_tmp ((by rw [hfin]; exact VImp.refl _)) resV_tmp ((by rw [hfin]; exact VImp.refl _)) resV_tmp ((by rw [hfin]; exact VImp.refl _))⟩
end Go.Proofs.YtkcgkignhpepkaaGreatDoor

/- Terms that are the same. -/
namespace Go.Proofs.YtkcgkignhpepkaaGreatDoor
open Go Hs
variable {G : List (Nat × TypeId × Pu)}
def eqLM {α : Type} (φ : α → α → Bool) : List α → List α → Bool
 | [], [] => true
 | a :: l, b :: m => φ a b && eqLM φ l m
 | _, _ => false
theorem eqLM_len {α : Type} {φ : α → α → Bool} : ∀ {l m : List α}, l.length ≠ m.length → eqLM φ l m = false
 | [], [], h => by simp at h
 | [], _ :: _, _ => rfl
 | _ :: _, [], _ => rfl
 | a :: l, b :: m, h => by simp only [eqLM, eqLM_len (l := l) (m := m) (by simpa using h), Bool.and_false]
theorem eqLM_take {α : Type} {φ : α → α → Bool} : ∀ {l m : List α} {i : Nat} (h : i < l.length) (h2 : i < m.length), eqLM φ (l.take (i + 1)) (m.take (i + 1)) = (eqLM φ (l.take i) (m.take i) && φ l[i] m[i])
 | a :: l, b :: m, 0, _, _ => by simp [eqLM]
 | a :: l, b :: m, i + 1, h, h2 => by
  have h' : i < l.length := by simpa using h
  have h2' : i < m.length := by simpa using h2
  have := eqLM_take (φ := φ) h' h2'
  simp only [List.take_succ_cons, eqLM, List.getElem_cons_succ, this, Bool.and_assoc]
theorem eqLM_stop {α : Type} {φ : α → α → Bool} : ∀ {l m : List α} {i : Nat}, eqLM φ (l.take i) (m.take i) = false → eqLM φ l m = false
 | [], [], i, h => by simp [eqLM] at h
 | [], _ :: _, i, h => rfl
 | _ :: _, [], i, h => rfl
 | a :: l, b :: m, 0, h => by simp [eqLM] at h
 | a :: l, b :: m, i + 1, h => by
  simp only [List.take_succ_cons, eqLM] at h ⊢
  cases hp : φ a b
  ·rfl
  ·rw [hp] at h
   simp only [Bool.true_and] at h ⊢
   exact eqLM_stop h
theorem eqfPat_c (f : FuncId) (he : entersB Tryz.prog f = true) (φ : Pat → Pat → Bool) (l m : List Pat) (hl : l.length < 2^40) (hm : m.length < 2^40) (h : ∀ i (h1 : i < l.length) (h2 : i < m.length), FCall Tryz.prog G f [.pu (patc 0 l[i]), .pu (patc 0 m[i])] (bv (φ l[i] m[i]))) :
  FCall Tryz.prog G 166 [.pu (.sl 0 104 (patsc 0 l)), .pu (.sl 0 104 (patsc 0 m)), fV f] (bv (eqLM φ l m)) := by
 refine FCall.of_tri tbl 32 Tryz.func166 rfl rfl rfl fun w0 M ρ0 D0 => ?_
 refine Y20 ?_;refine Y37 ?_;refine yM ?_;refine yC ?_;refine Y45 ?_;refine Tri.cond rfl (fun h0 => ?_) (fun h0 => ?_)
 ·skip
  have hf : eqLM φ l m = false := eqLM_len (by rw [pats_length, pats_length] at h0; simp at h0; omega)
  refine Y8 ?_;exact Tri.ret ⟨.inr rfl, ret1 rfl resV_tmp (bv_imp hf.symm)⟩
 ·skip
  have hlm : l.length = m.length := by rw [pats_length, pats_length] at h0; simp at h0; omega
  refine Tri.skip ?_;refine Y62 ?_;refine Tri.block (Tri.loopW (σ := {i : Nat // eqLM φ (l.take i) (m.take i) = true}) (fun i => ⟨[(1, .pu (.sl 0 104 (patsc 0 m))), (2, fV f), (15, .pu (.sl 0 104 (patsc 0 l))), (16, iv .i64 (patsc 0 l).length), (17, iv .i64 i.1)], []⟩) (fun i => l.length - i.1) ⟨0, by simp [eqLM]⟩ ?_ ?_ (fun i => ?_))
  ·exact zW
  ·exact zW
  refine Y31 ?_;refine Tri.cond rfl (fun h1 => ?_) (fun h1 => ?_)
  ·skip
   have hi : i.1 < l.length := by rw [pats_length] at h1; simpa using h1
   have hi2 : i.1 < m.length := by omega
   have htk := eqLM_take (φ := φ) hi hi2
   rw [i.2, Bool.true_and] at htk
   refine Tri.skip ?_;refine tQ ?_;refine Tri.block ?_;refine Y1 ?_;refine s_val (v_index SS (h0 := by omega) (hp := pats_get hi)) ?_;refine yL ?_;refine s_alloc SS 8 ?_;refine yA ?_;refine yS ?_;refine e_seqN [8] ?_;refine Y29 ?_;refine s_val (v_index SS (h0 := by omega) (hp := pats_get hi2)) ?_;refine yL ?_;refine s_alloc SS 9 ?_;refine yS ?_;refine e_seqN [9] ?_;refine Y32 ?_;refine yL ?_;refine s_val (v_callO (fun _ => h i.1 hi hi2) (he := he)) ?_;refine yQ ?_;refine Y0 ?_;refine Tri.cond rfl (fun h2 => ?_) (fun h2 => ?_)
   ·skip
    have hf : eqLM φ l m = false := eqLM_stop (i := i.1 + 1) (by rw [htk]; simpa using h2)
    refine Y8 ?_;exact Tri.ret ⟨.inr rfl, ret1 rfl resV_tmp (bv_imp hf.symm)⟩
   ·skip
    have hnext : eqLM φ (l.take (i.1 + 1)) (m.take (i.1 + 1)) = true := by rw [htk]; simpa using h2
    refine Tri.skip ?_;refine Y27 ?_
    refine ⟨⟨i.1 + 1, hnext⟩, by show l.length - (i.1 + 1) < l.length - i.1; omega, le_of ?_ ?_⟩
    ·exact zE
    ·exact zH
  ·skip
   have hf : eqLM φ l m = true := by
    have := i.2
    rwa [List.take_of_length_le (by rw [pats_length] at h1; simp at h1; omega), List.take_of_length_le (by rw [pats_length] at h1; simp at h1; omega)] at this
   refine Tri.exit ?_;refine Y8 ?_;exact Tri.ret ⟨.inr rfl, ret1 rfl resV_tmp (bv_imp hf.symm)⟩
theorem eqfTm_c (f : FuncId) (he : entersB Tryz.prog f = true) (φ : Tm → Tm → Bool) (l m : List Tm) (hl : l.length < 2^40) (hm : m.length < 2^40) (h : ∀ i (h1 : i < l.length) (h2 : i < m.length), FCall Tryz.prog G f [.pu (tmc 0 l[i]), .pu (tmc 0 m[i])] (bv (φ l[i] m[i]))) :
  FCall Tryz.prog G 118 [.pu (.sl 0 32 (tmsc 0 l)), .pu (.sl 0 32 (tmsc 0 m)), fV f] (bv (eqLM φ l m)) := by
 refine FCall.of_tri tbl 32 Tryz.func118 rfl rfl rfl fun w0 M ρ0 D0 => ?_
 refine Y20 ?_;refine Y37 ?_;refine yM ?_;refine yC ?_;refine Y45 ?_;refine Tri.cond rfl (fun h0 => ?_) (fun h0 => ?_)
 ·skip
  have hf : eqLM φ l m = false := eqLM_len (by rw [tms_length, tms_length] at h0; simp at h0; omega)
  refine Y8 ?_;exact Tri.ret ⟨.inr rfl, ret1 rfl resV_tmp (bv_imp hf.symm)⟩
 ·skip
  have hlm : l.length = m.length := by rw [tms_length, tms_length] at h0; simp at h0; omega
  refine Tri.skip ?_;refine Y62 ?_;refine Tri.block (Tri.loopW (σ := {i : Nat // eqLM φ (l.take i) (m.take i) = true}) (fun i => ⟨[(1, .pu (.sl 0 32 (tmsc 0 m))), (2, fV f), (15, .pu (.sl 0 32 (tmsc 0 l))), (16, iv .i64 (tmsc 0 l).length), (17, iv .i64 i.1)], []⟩) (fun i => l.length - i.1) ⟨0, by simp [eqLM]⟩ ?_ ?_ (fun i => ?_))
  ·exact zW
  ·exact zW
  refine Y31 ?_;refine Tri.cond rfl (fun h1 => ?_) (fun h1 => ?_)
  ·skip
   have hi : i.1 < l.length := by rw [tms_length] at h1; simpa using h1
   have hi2 : i.1 < m.length := by omega
   have htk := eqLM_take (φ := φ) hi hi2
   rw [i.2, Bool.true_and] at htk
   refine Tri.skip ?_;refine tQ ?_;refine Tri.block ?_;refine Y1 ?_;refine s_val (v_index SS (h0 := by omega) (hp := tms_get hi)) ?_;refine yL ?_;refine s_alloc SS 8 ?_;refine yA ?_;refine yS ?_;refine e_seqN [8] ?_;refine Y29 ?_;refine s_val (v_index SS (h0 := by omega) (hp := tms_get hi2)) ?_;refine yL ?_;refine s_alloc SS 9 ?_;refine yS ?_;refine e_seqN [9] ?_;refine Y32 ?_;refine yL ?_;refine s_val (v_callO (fun _ => h i.1 hi hi2) (he := he)) ?_;refine yQ ?_;refine Y0 ?_;refine Tri.cond rfl (fun h2 => ?_) (fun h2 => ?_)
   ·skip
    have hf : eqLM φ l m = false := eqLM_stop (i := i.1 + 1) (by rw [htk]; simpa using h2)
    refine Y8 ?_;exact Tri.ret ⟨.inr rfl, ret1 rfl resV_tmp (bv_imp hf.symm)⟩
   ·skip
    have hnext : eqLM φ (l.take (i.1 + 1)) (m.take (i.1 + 1)) = true := by rw [htk]; simpa using h2
    refine Tri.skip ?_;refine Y27 ?_
    refine ⟨⟨i.1 + 1, hnext⟩, by show l.length - (i.1 + 1) < l.length - i.1; omega, le_of ?_ ?_⟩
    ·exact zE
    ·exact zH
  ·skip
   have hf : eqLM φ l m = true := by
    have := i.2
    rwa [List.take_of_length_le (by rw [tms_length] at h1; simp at h1; omega), List.take_of_length_le (by rw [tms_length] at h1; simp at h1; omega)] at this
   refine Tri.exit ?_;refine Y8 ?_;exact Tri.ret ⟨.inr rfl, ret1 rfl resV_tmp (bv_imp hf.symm)⟩
theorem eqfCs_c (f : FuncId) (he : entersB Tryz.prog f = true) (φ : Cs → Cs → Bool) (l m : List Cs) (hl : l.length < 2^40) (hm : m.length < 2^40) (h : ∀ i (h1 : i < l.length) (h2 : i < m.length), FCall Tryz.prog G f [.pu (csec 0 l[i]), .pu (csec 0 m[i])] (bv (φ l[i] m[i]))) :
  FCall Tryz.prog G 97 [.pu (.sl 0 106 (cssc 0 l)), .pu (.sl 0 106 (cssc 0 m)), fV f] (bv (eqLM φ l m)) := by
 refine FCall.of_tri tbl 32 Tryz.func97 rfl rfl rfl fun w0 M ρ0 D0 => ?_
 refine Y20 ?_;refine Y37 ?_;refine yM ?_;refine yC ?_;refine Y45 ?_;refine Tri.cond rfl (fun h0 => ?_) (fun h0 => ?_)
 ·skip
  have hf : eqLM φ l m = false := eqLM_len (by rw [css_length, css_length] at h0; simp at h0; omega)
  refine Y8 ?_;exact Tri.ret ⟨.inr rfl, ret1 rfl resV_tmp (bv_imp hf.symm)⟩
 ·skip
  have hlm : l.length = m.length := by rw [css_length, css_length] at h0; simp at h0; omega
  refine Tri.skip ?_;refine Y62 ?_;refine Tri.block (Tri.loopW (σ := {i : Nat // eqLM φ (l.take i) (m.take i) = true}) (fun i => ⟨[(1, .pu (.sl 0 106 (cssc 0 m))), (2, fV f), (15, .pu (.sl 0 106 (cssc 0 l))), (16, iv .i64 (cssc 0 l).length), (17, iv .i64 i.1)], []⟩) (fun i => l.length - i.1) ⟨0, by simp [eqLM]⟩ ?_ ?_ (fun i => ?_))
  ·exact zW
  ·exact zW
  refine Y31 ?_;refine Tri.cond rfl (fun h1 => ?_) (fun h1 => ?_)
  ·skip
   have hi : i.1 < l.length := by rw [css_length] at h1; simpa using h1
   have hi2 : i.1 < m.length := by omega
   have htk := eqLM_take (φ := φ) hi hi2
   rw [i.2, Bool.true_and] at htk
   refine Tri.skip ?_;refine tQ ?_;refine Tri.block ?_;refine Y1 ?_;refine s_val (v_index SS (h0 := by omega) (hp := css_get hi)) ?_;refine yL ?_;refine s_alloc SS 8 ?_;refine yA ?_;refine yS ?_;refine e_seqN [8] ?_;refine Y29 ?_;refine s_val (v_index SS (h0 := by omega) (hp := css_get hi2)) ?_;refine yL ?_;refine s_alloc SS 9 ?_;refine yS ?_;refine e_seqN [9] ?_;refine Y32 ?_;refine yL ?_;refine s_val (v_callO (fun _ => h i.1 hi hi2) (he := he)) ?_;refine yQ ?_;refine Y0 ?_;refine Tri.cond rfl (fun h2 => ?_) (fun h2 => ?_)
   ·skip
    have hf : eqLM φ l m = false := eqLM_stop (i := i.1 + 1) (by rw [htk]; simpa using h2)
    refine Y8 ?_;exact Tri.ret ⟨.inr rfl, ret1 rfl resV_tmp (bv_imp hf.symm)⟩
   ·skip
    have hnext : eqLM φ (l.take (i.1 + 1)) (m.take (i.1 + 1)) = true := by rw [htk]; simpa using h2
    refine Tri.skip ?_;refine Y27 ?_
    refine ⟨⟨i.1 + 1, hnext⟩, by show l.length - (i.1 + 1) < l.length - i.1; omega, le_of ?_ ?_⟩
    ·exact zE
    ·exact zH
  ·skip
   have hf : eqLM φ l m = true := by
    have := i.2
    rwa [List.take_of_length_le (by rw [css_length] at h1; simp at h1; omega), List.take_of_length_le (by rw [css_length] at h1; simp at h1; omega)] at this
   refine Tri.exit ?_;refine Y8 ?_;exact Tri.ret ⟨.inr rfl, ret1 rfl resV_tmp (bv_imp hf.symm)⟩
mutual
def sameP : Pat → Pat → Bool
 | .mk k n r ks, .mk k' n' r' ks' => (k == k' && n == n' && r == r') && samePs ks ks'
def samePs : List Pat → List Pat → Bool
 | [], [] => true
 | p :: ps, q :: qs => sameP p q && samePs ps qs
 | _, _ => false
end
theorem samePs_eq : ∀ l m, samePs l m = eqLM sameP l m
 | [], [] => rfl
 | [], _ :: _ => rfl
 | _ :: _, [] => rfl
 | p :: ps, q :: qs => by simp only [samePs, eqLM, samePs_eq ps qs]
mutual
def sameT : Tm → Tm → Bool
 | .mk k n r ks cs, .mk k' n' r' ks' cs' => (k == k' && n == n' && r == r') && sameTs ks ks' && sameCs cs cs'
def sameTs : List Tm → List Tm → Bool
 | [], [] => true
 | p :: ps, q :: qs => sameT p q && sameTs ps qs
 | _, _ => false
def sameCs : List Cs → List Cs → Bool
 | [], [] => true
 | p :: ps, q :: qs => sameC p q && sameCs ps qs
 | _, _ => false
def sameC : Cs → Cs → Bool
 | .mk p t, .mk q u => sameP p q && sameT t u
end
theorem sameTs_eq : ∀ l m, sameTs l m = eqLM sameT l m
 | [], [] => by simp [sameTs, eqLM]
 | [], _ :: _ => by simp [sameTs, eqLM]
 | _ :: _, [] => by simp [sameTs, eqLM]
 | p :: ps, q :: qs => by simp only [sameTs, eqLM, sameTs_eq ps qs]
theorem sameCs_eq : ∀ l m, sameCs l m = eqLM sameC l m
 | [], [] => by simp [sameCs, eqLM]
 | [], _ :: _ => by simp [sameCs, eqLM]
 | _ :: _, [] => by simp [sameCs, eqLM]
 | p :: ps, q :: qs => by simp only [sameCs, eqLM, sameCs_eq ps qs]
theorem sameP_c : ∀ (N : Nat) (p q : Pat), psize p ≤ N → N < 2^40 → psize q < 2^40 → FCall Tryz.prog G 99 [.pu (patc 0 p), .pu (patc 0 q)] (bv (sameP p q)) := by
 intro N
 induction N with
 | zero => intro p q h; cases p; simp [psize] at h
 | succ N ih =>
 intro p q hp hN hq
 obtain ⟨k, n, r, ks⟩ := p
 obtain ⟨k', n', r', ks'⟩ := q
 simp only [psize] at hp hq
 have hlen := length_psizeL ks
 have hlen' := length_psizeL ks'
 refine FCall.of_tri tbl 31 Tryz.func99 rfl rfl rfl fun w0 M ρ0 D0 => ?_
 refine Tri.fact (i := 0) rfl (fun D w x h => pat_wf h) (fun hr => ?_);refine Tri.fact (i := 1) rfl (fun D w x h => pat_wf h) (fun hr' => ?_)
 simp only [wfP] at hr hr'
 refine yR ?_;refine s_box SS 2 ?_;refine s_box SS 3 ?_;refine yB ?_;refine e_seqN [2, 3] ?_;refine Y16 ?_;refine Y3 ?_;refine yI ?_;refine Y44 ?_;refine Y19 ?_;refine Y44 ?_;refine s_gg zG (v_bin SS (h := bin_eqS (hr.1.trans hr'.1.symm))) ?_;refine yN ?_;refine Y44 ?_;refine s_gg zG (v_callD (fun _ => eqfPat_c 99 (by kernel_rfl) sameP ks ks' (by omega) (by omega) (fun i h1 h2 => ih _ _ (by have := psizeL_get h1; omega) (by omega) (by have := psizeL_get h2; omega)))) ?_;refine yN ?_;refine Y2 ?_;exact Tri.ret ⟨.inr rfl, ret1 rfl resV_tmp (bv_imp (by simp only [sameP, samePs_eq]))⟩
theorem sameC_c (c d : Cs) (hp : csize c < 2^40) (hq : csize d < 2^40) (h : FCall Tryz.prog G 23 [.pu (tmc 0 (csT c)), .pu (tmc 0 (csT d))] (bv (sameT (csT c) (csT d)))) : FCall Tryz.prog G 98 [.pu (csec 0 c), .pu (csec 0 d)] (bv (sameC c d)) := by
 obtain ⟨p, t⟩ := c
 obtain ⟨q, u⟩ := d
 simp only [csT, csize] at h hp hq
 refine FCall.of_tri tbl 17 Tryz.func98 rfl rfl rfl fun w0 M ρ0 D0 => ?_
 refine yR ?_;refine s_box SS 2 ?_;refine s_box SS 3 ?_;refine yB ?_;refine e_seqN [2, 3] ?_;refine Y16 ?_;refine Y3 ?_;refine s_val (v_callD (fun _ => sameP_c _ p q (Nat.le_refl _) (by omega) (by omega))) ?_;refine Y44 ?_;refine s_gg zG (v_callD (fun _ => h)) ?_;refine yN ?_;refine Y2 ?_;exact Tri.ret ⟨.inr rfl, ret1 rfl resV_tmp (bv_imp (by simp only [sameC]))⟩
theorem sameTs_c (l m : List Tm) (hl : l.length < 2^40) (hm : m.length < 2^40) (h : ∀ i (h1 : i < l.length) (h2 : i < m.length), FCall Tryz.prog G 23 [.pu (tmc 0 l[i]), .pu (tmc 0 m[i])] (bv (sameT l[i] m[i]))) : FCall Tryz.prog G 50 [.pu (.sl 0 32 (tmsc 0 l)), .pu (.sl 0 32 (tmsc 0 m))] (bv (sameTs l m)) := by
 refine FCall.of_tri tbl 8 Tryz.func50 rfl rfl rfl fun w0 M ρ0 D0 => ?_
 refine Y20 ?_;refine Y29 ?_;refine s_val (v_callD (fun _ => eqfTm_c 23 (by kernel_rfl) sameT l m hl hm h)) ?_;refine Y2 ?_;exact Tri.ret ⟨.inr rfl, ret1 rfl resV_tmp (bv_imp (by rw [sameTs_eq]))⟩
theorem sameT_c : ∀ (N : Nat) (t u : Tm), tsize t ≤ N → N < 2^40 → tsize u < 2^40 → FCall Tryz.prog G 23 [.pu (tmc 0 t), .pu (tmc 0 u)] (bv (sameT t u)) := by
 intro N
 induction N with
 | zero => intro t u h; have := tsize_pos t; omega
 | succ N ih =>
 intro t u hp hN hq
 obtain ⟨k, n, r, ks, cs⟩ := t
 obtain ⟨k', n', r', ks', cs'⟩ := u
 simp only [tsize] at hp hq
 have hlen := length_tsizeL ks
 have hlen' := length_tsizeL ks'
 have hlc := length_csizeL cs
 have hlc' := length_csizeL cs'
 refine FCall.of_tri tbl 38 Tryz.func23 rfl rfl rfl fun w0 M ρ0 D0 => ?_
 refine Tri.fact (i := 0) rfl (fun D w x h => tm_wf h) (fun hr => ?_);refine Tri.fact (i := 1) rfl (fun D w x h => tm_wf h) (fun hr' => ?_)
 simp only [wfT] at hr hr'
 have hcs : ∀ i (h1 : i < cs.length) (h2 : i < cs'.length), FCall Tryz.prog G 98 [.pu (csec 0 cs[i]), .pu (csec 0 cs'[i])] (bv (sameC cs[i] cs'[i])) := fun i h1 h2 => by
  have s1 := csizeL_get h1
  have s2 := csizeL_get h2
  generalize cs[i] = c at s1 ⊢
  generalize cs'[i] = d at s2 ⊢
  refine sameC_c c d (by omega) (by omega) ?_
  obtain ⟨p, t⟩ := c
  obtain ⟨q, u⟩ := d
  simp only [csize, csT] at s1 s2 ⊢
  exact ih t u (by omega) (by omega) (by omega)
 refine yR ?_;refine s_box SS 2 ?_;refine s_box SS 3 ?_;refine yB ?_;refine e_seqN [2, 3] ?_;refine Y16 ?_;refine Y3 ?_;refine yI ?_;refine Y44 ?_;refine Y19 ?_;refine Y44 ?_;refine s_gg zG (v_bin SS (h := bin_eqS (hr.1.trans hr'.1.symm))) ?_;refine yN ?_;refine Y44 ?_;refine s_gg zG (v_callD (fun _ => sameTs_c ks ks' (by omega) (by omega) (fun i h1 h2 => ih _ _ (by have := tsizeL_get h1; omega) (by omega) (by have := tsizeL_get h2; omega)))) ?_;refine yN ?_;refine Y44 ?_;refine s_gg zG (v_callD (fun _ => eqfCs_c 98 (by kernel_rfl) sameC cs cs' (by omega) (by omega) hcs)) ?_;refine yN ?_;refine Y2 ?_
 exact Tri.ret ⟨.inr rfl, ret1 rfl resV_tmp (bv_imp (by simp only [sameT, sameCs_eq]))⟩
mutual
theorem sameP_refl : ∀ p : Pat, sameP p p = true
 | .mk k n r ks => by simp [sameP, samePs_refl ks]
theorem samePs_refl : ∀ ps : List Pat, samePs ps ps = true
 | [] => rfl
 | p :: ps => by simp [samePs, sameP_refl p, samePs_refl ps]
end
mutual
theorem sameT_refl : ∀ t : Tm, sameT t t = true
 | .mk k n r ks cs => by simp [sameT, sameTs_refl ks, sameCs_refl cs]
theorem sameTs_refl : ∀ ts : List Tm, sameTs ts ts = true
 | [] => by simp [sameTs]
 | t :: ts => by simp [sameTs, sameT_refl t, sameTs_refl ts]
theorem sameCs_refl : ∀ cs : List Cs, sameCs cs cs = true
 | [] => by simp [sameCs]
 | c :: cs => by simp [sameCs, sameC_refl c, sameCs_refl cs]
theorem sameC_refl : ∀ c : Cs, sameC c c = true
 | .mk p t => by simp [sameC, sameP_refl p, sameT_refl t]
end
end Go.Proofs.YtkcgkignhpepkaaGreatDoor

/- The usual world. -/
namespace Go.Proofs.YtkcgkignhpepkaaGreatDoor
open Go Hs
def sumR (n : Int) : List Int := n :: List.replicate 31 0
def gL : List (Nat × TypeId × Pu) := [(0, 28, refP (sumR 11)), (1, 28, refP (sumR 3)), (2, 28, refP (sumR 13)), (3, 28, refP (sumR 12)), (4, 28, refP (sumR 21)), (5, 28, refP (sumR 2)), (6, 28, refP (sumR 4)), (7, 28, refP (sumR 24)), (8, 28, refP (sumR 1)), (9, 28, refP (sumR 22)), (10, 28, refP (sumR 23))]
def gA : List (Nat × TypeId × Pu) := [(0, 28, refP (sumR 11)), (4, 28, refP (sumR 21))]
section
variable {G : List (Nat × TypeId × Pu)}
theorem Ha_c (r : List Int) (ks : List Tm) : FCall Tryz.prog G 37 [.pu (refP r), .pu (.sl 0 32 (tmsc 0 ks))] (.pu (tmc 0 (.mk 12 0 r ks []))) := by
 refine FCall.of_tri tbl 8 Tryz.func37 rfl rfl rfl fun w0 M ρ0 D0 => ?_
 refine yR ?_;refine s_box SS 2 ?_;refine s_alloc SS 4 ?_;refine e_seqN [2, 4] ?_;refine Y4 ?_;refine yM ?_;refine Y41 ?_;exact Tri.ret ⟨.inr rfl, ret1 rfl resV_cell (ToPu.imp (by repeat constructor))⟩
theorem PC_c (r : List Int) (n : Int) (ks : List Pat) : FCall Tryz.prog G 67 [.pu (refP r), iv .i64 n, .pu (.sl 0 104 (patsc 0 ks))] (.pu (patc 0 (.mk 3 n r ks))) := by
 refine FCall.of_tri tbl 11 Tryz.func67 rfl rfl rfl fun w0 M ρ0 D0 => ?_
 refine yR ?_;refine s_box SS 3 ?_;refine s_alloc SS 6 ?_;refine e_seqN [3, 6] ?_;refine Y4 ?_;refine Y21 ?_;refine Y41 ?_;exact Tri.ret ⟨.inr rfl, ret1 rfl resV_cell (ToPu.imp (by repeat constructor))⟩
def rowZ : Pu := .agg 56 [.sl 0 28 [], .leaf (.bool false), .leaf (.int .i64 0)]
def typT (k n : Int) (r : List Int) (ks : List Pu) : Pu := .agg 58 [.leaf (.int .i64 k), .leaf (.int .i64 n), refP r, .sl 0 58 ks, rowZ]
instance (k n : Int) (r : List Int) (ks : List Pu) : TyV Tryz.prog 58 (.pu (typT k n r ks)) := inferInstanceAs (TyV Tryz.prog 58 (.pu (.agg _ _)))
theorem V_c (n : Int) : FCall Tryz.prog G 108 [iv .i64 n] (.pu (typT 1 n Z32 [])) := by
 refine FCall.of_tri tbl 5 Tryz.func108 rfl rfl rfl fun w0 M ρ0 D0 => ?_
 refine yR ?_;refine s_alloc SS 2 ?_;refine e_seqN [2] ?_;refine Y1 ?_;refine Y41 ?_;exact Tri.ret ⟨.inr rfl, ret1 rfl resV_cell (ToPu.imp (by repeat constructor))⟩
theorem N_c : FCall Tryz.prog G 29 [] (.pu (typT 2 0 Z32 [])) := by
 refine FCall.of_tri tbl 2 Tryz.func29 rfl rfl rfl fun w0 M ρ0 D0 => ?_
 refine yR ?_;refine s_alloc SS 0 ?_;refine e_seqN [0] ?_;refine yR ?_;refine Y41 ?_;exact Tri.ret ⟨.inr rfl, ret1 rfl resV_cell (ToPu.imp (by repeat constructor))⟩
theorem D_c (r : List Int) (ks : List Pu) : FCall Tryz.prog G 109 [.pu (refP r), .pu (.sl 0 58 ks)] (.pu (typT 4 0 r ks)) := by
 refine FCall.of_tri tbl 8 Tryz.func109 rfl rfl rfl fun w0 M ρ0 D0 => ?_
 refine yR ?_;refine s_box SS 2 ?_;refine s_alloc SS 4 ?_;refine e_seqN [2, 4] ?_;refine Y4 ?_;refine yM ?_;refine Y41 ?_;exact Tri.ret ⟨.inr rfl, ret1 rfl resV_cell (ToPu.imp (by repeat constructor))⟩
end
def vaM (n : Int) : Tm := .mk 1 n Z32 [] []
def nuM (n : Int) : Tm := .mk 2 n Z32 [] []
def laM (t : Tm) : Tm := .mk 3 0 Z32 [t] []
def apM (s t : Tm) : Tm := .mk 4 0 Z32 [s, t] []
def deM (r : List Int) : Tm := .mk 6 0 r [] []
def prM (n : Int) (s t : Tm) : Tm := .mk 10 n Z32 [s, t] []
def maM (t : Tm) (cs : List Cs) : Tm := .mk 9 0 Z32 [t] cs
def anyM : Pat := .mk 1 0 Z32 []
def pnM (n : Int) : Pat := .mk 2 n Z32 []
def pcM (r : List Int) (n : Int) (ks : List Pat) : Pat := .mk 3 n r ks
def worldT : List KT := [(sumR 21, laM (prM 1 (vaM 0) (nuM 1))), (sumR 22, laM (laM (prM 1 (vaM 1) (vaM 0)))),
 (sumR 23, laM (maM (vaM 0) [.mk (pcM (sumR 2) 0 []) (nuM 0), .mk (pcM (sumR 2) 1 [anyM, anyM]) (prM 1 (vaM 1) (apM (deM (sumR 23)) (vaM 0)))])),
 (sumR 24, laM (maM (vaM 0) [.mk (pnM 0) (nuM 0), .mk anyM (apM (deM (sumR 24)) (prM 2 (vaM 0) (nuM 1)))]))]
def kdP (r : List Int) (u : Array UInt8) (n : Int) (cons : List (List Pu)) : Pu := .agg 130 [refP r, .agg 128 [.leaf (.string ⟨u⟩), .leaf (.int .i64 n), .sl 0 53 (cons.map fun l => .sl 0 58 l)]]
def kaP (r : List Int) (u : Array UInt8) (ops : List Pu) : Pu := .agg 136 [refP r, .agg 134 [.leaf (.string ⟨u⟩), .sl 0 167 ops]]
def vT (n : Int) : Pu := typT 1 n Z32 []
def nT : Pu := typT 2 0 Z32 []
def opT (f t : Pu) : Pu := .agg 167 [f, t]
def worldA : Pu := .sl 0 130 [kdP (sumR 1) #[] 0 [[], []], kdP (sumR 2) #[] 1 [[], [vT 0, typT 4 0 (sumR 2) [vT 0]]], kdP (sumR 3) #[] 2 [[vT 0, vT 1]], kdP (sumR 4) #[111, 112, 116] 1 [[], [vT 0]]]
def worldB : Pu := .sl 0 136 [kaP (sumR 11) #[] [opT nT nT, opT nT nT], kaP (sumR 12) #[] [opT nT (typT 4 0 (sumR 1) [])], kaP (sumR 13) #[97, 98, 111, 114, 116] [opT nT nT]]
set_option maxHeartbeats 4000000 in
theorem World_c : FCall Tryz.prog gL 25 [] (.pu (wdP worldA worldB worldT)) := by
 refine FCall.of_tri tbl 113 Tryz.func25 rfl rfl rfl fun w0 M ρ0 D0 => ?_
 refine yR ?_;refine s_alloc SS 0 ?_;refine e_seqN [0] ?_;refine Y40 ?_;refine yZ ?_;refine yZ ?_;refine Y64 ?_;refine yP ?_;refine yG ?_;refine yZ ?_;refine s_val (v_callD (fun _ => V_c 0)) ?_;refine yG ?_;refine s_val (v_callD (fun _ => V_c 0)) ?_;refine yZ ?_;refine s_val (v_callD (fun _ => D_c (sumR 2) [typT 1 0 Z32 []])) ?_;refine yZ ?_;refine Y64 ?_;refine yP ?_;refine yG ?_;refine s_val (v_callD (fun _ => V_c 0)) ?_;refine s_val (v_callD (fun _ => V_c 1)) ?_;refine yZ ?_;refine Y64 ?_;refine yP ?_;refine yG ?_;refine yZ ?_;refine s_val (v_callD (fun _ => V_c 0)) ?_;refine yZ ?_;refine Y64 ?_;refine yP ?_;refine yZ ?_;refine yG ?_;refine s_val (v_callD (fun _ => N_c)) ?_;refine s_val (v_callD (fun _ => N_c)) ?_;refine yP ?_;refine s_val (v_callD (fun _ => N_c)) ?_;refine s_val (v_callD (fun _ => N_c)) ?_;refine yP ?_;refine Y64 ?_;refine yP ?_;refine yG ?_
 refine s_val (v_callD (fun _ => N_c)) ?_;refine yG ?_;refine s_val (v_callD (fun _ => D_c (sumR 1) [])) ?_;refine yP ?_;refine Y64 ?_;refine yP ?_;refine yG ?_;refine s_val (v_callD (fun _ => N_c)) ?_;refine s_val (v_callD (fun _ => N_c)) ?_;refine yP ?_;refine Y64 ?_;refine yP ?_;refine yZ ?_;refine yG ?_;refine s_val (v_callD (fun _ => Va_c 0)) ?_;refine s_val (v_callD (fun _ => Nu_c 1)) ?_;refine s_val (v_callD (fun _ => Pr_c 1 (vaM 0) (nuM 1))) ?_;refine s_val (v_callD (fun _ => La_c (prM 1 (vaM 0) (nuM 1)))) ?_;refine yP ?_;refine yG ?_;refine s_val (v_callD (fun _ => Va_c 1)) ?_;refine s_val (v_callD (fun _ => Va_c 0)) ?_;refine s_val (v_callD (fun _ => Pr_c 1 (vaM 1) (vaM 0))) ?_;refine s_val (v_callD (fun _ => La_c (prM 1 (vaM 1) (vaM 0)))) ?_;refine s_val (v_callD (fun _ => La_c (laM (prM 1 (vaM 1) (vaM 0))))) ?_;refine yP ?_;refine yG ?_;refine s_val (v_callD (fun _ => Va_c 0)) ?_
 refine yG ?_;refine s_val (v_callD (fun _ => PC_c (sumR 2) 0 [])) ?_;refine s_val (v_callD (fun _ => Nu_c 0)) ?_;refine s_val (v_callD (fun _ => Ca_c (pcM (sumR 2) 0 []) (nuM 0))) ?_;refine yG ?_;refine s_val (v_callD (fun _ => Any_c)) ?_;refine s_val (v_callD (fun _ => Any_c)) ?_;refine yZ ?_;refine s_val (v_callD (fun _ => PC_c (sumR 2) 1 [anyM, anyM])) ?_;refine s_val (v_callD (fun _ => Va_c 1)) ?_;refine yG ?_;refine s_val (v_callD (fun _ => De_c (sumR 23))) ?_;refine s_val (v_callD (fun _ => Va_c 0)) ?_;refine s_val (v_callD (fun _ => Ap_c (deM (sumR 23)) (vaM 0))) ?_;refine s_val (v_callD (fun _ => Pr_c 1 (vaM 1) (apM (deM (sumR 23)) (vaM 0)))) ?_;refine s_val (v_callD (fun _ => Ca_c (pcM (sumR 2) 1 [anyM, anyM]) (prM 1 (vaM 1) (apM (deM (sumR 23)) (vaM 0))))) ?_;refine yZ ?_
 refine s_val (v_callD (fun _ => Ma_c (vaM 0) [.mk (pcM (sumR 2) 0 []) (nuM 0), .mk (pcM (sumR 2) 1 [anyM, anyM]) (prM 1 (vaM 1) (apM (deM (sumR 23)) (vaM 0)))])) ?_;refine s_val (v_callD (fun _ => La_c (maM (vaM 0) [.mk (pcM (sumR 2) 0 []) (nuM 0), .mk (pcM (sumR 2) 1 [anyM, anyM]) (prM 1 (vaM 1) (apM (deM (sumR 23)) (vaM 0)))]))) ?_;refine yP ?_;refine yG ?_;refine s_val (v_callD (fun _ => Va_c 0)) ?_;refine s_val (v_callD (fun _ => PN_c 0)) ?_;refine s_val (v_callD (fun _ => Nu_c 0)) ?_;refine s_val (v_callD (fun _ => Ca_c (pnM 0) (nuM 0))) ?_;refine s_val (v_callD (fun _ => Any_c)) ?_;refine yG ?_;refine s_val (v_callD (fun _ => De_c (sumR 24))) ?_;refine s_val (v_callD (fun _ => Va_c 0)) ?_;refine s_val (v_callD (fun _ => Nu_c 1)) ?_;refine s_val (v_callD (fun _ => Pr_c 2 (vaM 0) (nuM 1))) ?_;refine s_val (v_callD (fun _ => Ap_c (deM (sumR 24)) (prM 2 (vaM 0) (nuM 1)))) ?_
 refine s_val (v_callD (fun _ => Ca_c anyM (apM (deM (sumR 24)) (prM 2 (vaM 0) (nuM 1))))) ?_;refine yZ ?_;refine s_val (v_callD (fun _ => Ma_c (vaM 0) [.mk (pnM 0) (nuM 0), .mk anyM (apM (deM (sumR 24)) (prM 2 (vaM 0) (nuM 1)))])) ?_;refine s_val (v_callD (fun _ => La_c (maM (vaM 0) [.mk (pnM 0) (nuM 0), .mk anyM (apM (deM (sumR 24)) (prM 2 (vaM 0) (nuM 1)))]))) ?_;refine yP ?_;refine Y64 ?_;refine Y25 ?_;exact Tri.ret ⟨.inr rfl, ret1 rfl resV_cell (ToPu.imp (by repeat constructor))⟩
end Go.Proofs.YtkcgkignhpepkaaGreatDoor

/- The chapter's examples. -/
namespace Go.Proofs.YtkcgkignhpepkaaGreatDoor
open Go Hs
theorem eqPath_c {G : List (Nat × TypeId × Pu)} (l m : List Nat) (hl : l.length < 2^40) (hm : m.length < 2^40) : FCall Tryz.prog G 20 [.pu (.sl 0 3 (pathL l)), .pu (.sl 0 3 (pathL m))] (bv (eqLM (fun a b : Nat => (a : Int) == (b : Int)) l m)) := by
 refine FCall.of_tri tbl 26 Tryz.func20 rfl rfl rfl fun w0 M ρ0 D0 => ?_
 refine Y20 ?_;refine Y37 ?_;refine yM ?_;refine yC ?_;refine Y45 ?_;refine Tri.cond rfl (fun h0 => ?_) (fun h0 => ?_)
 ·skip
  have hf : eqLM (fun a b : Nat => (a : Int) == (b : Int)) l m = false := eqLM_len (by rw [path_len, path_len] at h0; simp at h0; omega)
  refine Y8 ?_;exact Tri.ret ⟨.inr rfl, ret1 rfl resV_tmp (bv_imp hf.symm)⟩
 ·skip
  have hlm : l.length = m.length := by rw [path_len, path_len] at h0; simp at h0; omega
  refine Tri.skip ?_;refine Y62 ?_;refine Tri.block (Tri.loopW (σ := {i : Nat // eqLM (fun a b : Nat => (a : Int) == (b : Int)) (l.take i) (m.take i) = true}) (fun i => ⟨[(0, .pu (.sl 0 3 (pathL l))), (1, .pu (.sl 0 3 (pathL m))), (12, iv .i64 (pathL l).length), (13, iv .i64 i.1)], []⟩) (fun i => l.length - i.1) ⟨0, by simp [eqLM]⟩ ?_ ?_ (fun i => ?_))
  ·exact zW
  ·exact zW
  refine Y31 ?_;refine Tri.cond rfl (fun h1 => ?_) (fun h1 => ?_)
  ·skip
   have hi : i.1 < l.length := by rw [path_len] at h1; simpa using h1
   have hi2 : i.1 < m.length := by omega
   have htk := eqLM_take (φ := fun a b : Nat => (a : Int) == (b : Int)) hi hi2
   rw [i.2, Bool.true_and] at htk
   refine Tri.skip ?_;refine tQ ?_;refine Tri.block ?_;refine Y63 ?_;refine Y29 ?_;refine s_val (v_index SS (h0 := by omega) (hp := path_get hi)) ?_;refine yL ?_;refine Y21 ?_;refine s_val (v_index SS (h0 := by omega) (hp := path_get hi2)) ?_;refine yL ?_;refine yI ?_;refine Y18 ?_;refine Tri.cond rfl (fun h2 => ?_) (fun h2 => ?_)
   ·skip
    have hf : eqLM (fun a b : Nat => (a : Int) == (b : Int)) l m = false := eqLM_stop (i := i.1 + 1) (by rw [htk]; simp at h2; simp; omega)
    refine Y8 ?_;exact Tri.ret ⟨.inr rfl, ret1 rfl resV_tmp (bv_imp hf.symm)⟩
   ·skip
    have hnext : eqLM (fun a b : Nat => (a : Int) == (b : Int)) (l.take (i.1 + 1)) (m.take (i.1 + 1)) = true := by rw [htk]; simp at h2; simp; omega
    refine Tri.skip ?_;refine Y27 ?_
    refine ⟨⟨i.1 + 1, hnext⟩, by show l.length - (i.1 + 1) < l.length - i.1; omega, le_of ?_ ?_⟩
    ·exact zE
    ·exact zH
  ·skip
   have hf : eqLM (fun a b : Nat => (a : Int) == (b : Int)) l m = true := by
    have := i.2
    rwa [List.take_of_length_le (by rw [path_len] at h1; simp at h1; omega), List.take_of_length_le (by rw [path_len] at h1; simp at h1; omega)] at this
   refine Tri.exit ?_;refine Y8 ?_;exact Tri.ret ⟨.inr rfl, ret1 rfl resV_tmp (bv_imp hf.symm)⟩
def askM (r : List Int) (n : Int) (t : Tm) : Tm := .mk 11 n r [t] []
def resM (b : Tm) : Tm := .mk 12 0 (sumR 11) [prM 1 (askM (sumR 11) 0 (nuM 5)) (nuM 1), vaM 0, b] []
theorem Resumed_c (b : Tm) : FCall Tryz.prog gA 69 [.pu (tmc 0 b)] (.pu (tmc 0 (resM b))) := by
 refine FCall.of_tri tbl 13 Tryz.func69 rfl rfl rfl fun w0 M ρ0 D0 => ?_
 refine yR ?_;refine s_box SS 1 ?_;refine s_alloc SS 2 ?_;refine e_seqN [1, 2] ?_;refine Y40 ?_;refine yG ?_;refine s_val (v_callD (fun _ => Nu_c 5)) ?_;refine s_val (v_callD (fun _ => Ask_c (sumR 11) 0 (nuM 5))) ?_;refine s_val (v_callD (fun _ => Nu_c 1)) ?_;refine s_val (v_callD (fun _ => Pr_c 1 (askM (sumR 11) 0 (nuM 5)) (nuM 1))) ?_;refine s_val (v_callD (fun _ => Va_c 0)) ?_;refine Y56 ?_;refine s_val (v_callD (fun _ => Ha_c (sumR 11) [prM 1 (askM (sumR 11) 0 (nuM 5)) (nuM 1), vaM 0, b])) ?_;refine Y25 ?_;exact Tri.ret ⟨.inr rfl, ret1 rfl resV_cell (ToPu.imp (by repeat constructor))⟩
def awT : List KT := [(sumR 21, apM (deM (sumR 21)) (nuM 0))]
def aw1 : Tm := apM (laM (prM 1 (vaM 0) (vaM 0))) (prM 1 (nuM 1) (nuM 2))
def onceM : Tm := apM (vaM 0) (vaM 1)
def twiceM : Tm := prM 1 (apM (vaM 0) (nuM 1)) (apM (vaM 0) (nuM 2))
theorem aw_sz : ∀ x ∈ awT, tsize x.2 < 2^40 := by intro x hx; simp only [awT, List.mem_singleton] at hx; subst hx; decide
abbrev awA : Pu := .sl 0 130 []
abbrev awB : Pu := .sl 0 136 []
theorem awNext (t : Tm) {x : Int × List Nat × Int} (h : stepNextM awT t = x) (hz : tsize t < 2^40) : FCall Tryz.prog gA 18 [.pu (wdP awA awB awT), .pu (tmc 0 t)] (nextV x) := h ▸ stepNext_c awA awB awT t aw_sz hz
theorem awRun (t : Tm) (n : Int) {x : EndM × Int} (h : runM awT t n = x) (hz : tsize t < 2^40) : FCall Tryz.prog gA 35 [.pu (wdP awA awB awT), .pu (tmc 0 t), iv .i64 n] (ranV x) := h ▸ run_c awA awB awT t n aw_sz hz
theorem aw_n1 : stepNextM awT aw1 = (4, [1], 0) := by kernel_rfl
theorem aw_r1 : runM awT aw1 10 = (⟨0, 3, nuM 6, Z32, 0⟩, 0) := by kernel_rfl
theorem aw_r2 : runM awT (resM onceM) 10 = (⟨0, 4, nuM 6, Z32, 0⟩, 0) := by kernel_rfl
theorem aw_r3 : runM awT (resM (vaM 1)) 10 = (⟨0, 1, nuM 5, Z32, 0⟩, 0) := by kernel_rfl
theorem aw_r4 : runM awT (resM twiceM) 20 = (⟨0, 8, nuM 5, Z32, 0⟩, 0) := by kernel_rfl
theorem aw_r5 : runM awT (deM (sumR 21)) 10 = (⟨10, 10, noneM, Z32, 0⟩, 0) := by kernel_rfl
theorem aw_n2 : stepNextM awT (apM (nuM 1) (nuM 2)) = (8, [], 0) := by kernel_rfl
theorem aw_n3 : stepNextM awT (askM (sumR 11) 0 (nuM 1)) = (9, [], 0) := by kernel_rfl
end Go.Proofs.YtkcgkignhpepkaaGreatDoor

/- awake: the chapter's examples come out as told. -/
namespace Go.Proofs.YtkcgkignhpepkaaGreatDoor
open Go Hs
set_option maxHeartbeats 4000000 in
theorem awake_c : FCall Tryz.prog gA 13 [] (bv true) := by
 refine FCall.of_tri tbl 203 Tryz.func13 rfl rfl rfl fun w0 M ρ0 D0 => ?_
 refine Y8 ?_;refine Tri.cond rfl (fun h0 => ?_) (fun h0 => ?_)
 ·cases h0
 ·skip
  refine Tri.skip ?_;refine Y40 ?_;refine yG ?_;refine s_val (v_callD (fun _ => De_c (sumR 21))) ?_;refine s_val (v_callD (fun _ => Nu_c 0)) ?_;refine s_val (v_callD (fun _ => Ap_c (deM (sumR 21)) (nuM 0))) ?_;refine yP ?_;refine Y64 ?_;refine s_alloc SS 1 ?_;refine yS ?_;refine e_drawN [1] ?_;refine yR ?_;refine s_val (v_callD (fun _ => Va_c 0)) ?_;refine s_val (v_callD (fun _ => Va_c 0)) ?_;refine s_val (v_callD (fun _ => Pr_c 1 (vaM 0) (vaM 0))) ?_;refine s_val (v_callD (fun _ => La_c (prM 1 (vaM 0) (vaM 0)))) ?_;refine s_val (v_callD (fun _ => Nu_c 1)) ?_;refine s_val (v_callD (fun _ => Nu_c 2)) ?_;refine s_val (v_callD (fun _ => Pr_c 1 (nuM 1) (nuM 2))) ?_;refine s_val (v_callD (fun _ => Ap_c (laM (prM 1 (vaM 0) (vaM 0))) (prM 1 (nuM 1) (nuM 2)))) ?_;refine s_alloc SS 2 ?_;refine yS ?_;refine e_seqN [2] ?_;refine Y36 ?_
  refine s_val (v_callD (fun _ => awNext aw1 aw_n1 (by decide))) ?_;refine Y46 ?_;refine yX ?_;refine yA ?_;refine yA ?_;refine Y14 ?_;refine Y36 ?_;refine s_val (v_callD (fun _ => awRun aw1 10 aw_r1 (by decide))) ?_;refine Y46 ?_;refine s_alloc SS 6 ?_;refine Y48 ?_;refine e_seqN [6] ?_;refine Y4 ?_;refine s_val (v_callD (fun _ => Once_c)) ?_;refine s_val (v_callD (fun _ => Resumed_c onceM)) ?_;refine s_val (v_callD (fun _ => awRun (resM onceM) 10 aw_r2 (by decide))) ?_;refine Y46 ?_;refine s_alloc SS 8 ?_;refine Y48 ?_;refine e_drawN [8] ?_;refine Y4 ?_;refine s_val (v_callD (fun _ => Va_c 1)) ?_;refine s_val (v_callD (fun _ => Resumed_c (vaM 1))) ?_;refine s_val (v_callD (fun _ => awRun (resM (vaM 1)) 10 aw_r3 (by decide))) ?_;refine Y43 ?_
  refine yX ?_;refine s_alloc SS 10 ?_;refine Y48 ?_;refine e_drawN [10] ?_;refine Y4 ?_;refine s_val (v_callD (fun _ => Twice_c)) ?_;refine s_val (v_callD (fun _ => Resumed_c twiceM)) ?_;refine s_val (v_callD (fun _ => awRun (resM twiceM) 20 aw_r4 (by decide))) ?_;refine Y46 ?_;refine s_alloc SS 12 ?_;refine Y48 ?_;refine e_drawN [12] ?_;refine Y4 ?_;refine yG ?_;refine s_val (v_callD (fun _ => De_c (sumR 21))) ?_;refine s_val (v_callD (fun _ => awRun (deM (sumR 21)) 10 aw_r5 (by decide))) ?_;refine Y46 ?_;refine s_alloc SS 14 ?_;refine Y48 ?_;refine e_drawN [14] ?_;refine Y4 ?_;refine s_val (v_callD (fun _ => Nu_c 1)) ?_;refine s_val (v_callD (fun _ => Nu_c 2)) ?_;refine s_val (v_callD (fun _ => Ap_c (nuM 1) (nuM 2))) ?_
  refine s_val (v_callD (fun _ => awNext (apM (nuM 1) (nuM 2)) aw_n2 (by decide))) ?_;refine Y46 ?_;refine yX ?_;refine yA ?_;refine yA ?_;refine yA ?_;refine e_draw ?_;refine Y4 ?_;refine yG ?_;refine s_val (v_callD (fun _ => Nu_c 1)) ?_;refine s_val (v_callD (fun _ => Ask_c (sumR 11) 0 (nuM 1))) ?_;refine s_val (v_callD (fun _ => awNext (askM (sumR 11) 0 (nuM 1)) aw_n3 (by decide))) ?_;refine Y46 ?_;refine yX ?_;refine yA ?_;refine yA ?_;refine yA ?_;refine e_draw ?_;refine Y49 ?_;refine Y35 ?_;refine Y35 ?_;refine Y35 ?_;refine Y35 ?_;refine Y35 ?_;refine Y35 ?_;refine yM ?_
  refine xM ?_;refine Y19 ?_;refine Y22 ?_;refine s_gg zG (v_sl SS) ?_;refine s_gg zG (v_callD (fun _ => eqPath_c [1] [1] (by decide) (by decide))) ?_;refine yN ?_;refine Y15 ?_;refine Y19 ?_;refine Y15 ?_;refine Y19 ?_;refine yM ?_;refine xF ?_;refine Y7 ?_;refine Y19 ?_;refine Y15 ?_;refine Y19 ?_;refine yM ?_;refine xF ?_;refine Y7 ?_;refine Y19 ?_;refine Y15 ?_;refine Y19 ?_;refine yM ?_;refine xF ?_;refine Y7 ?_;refine Y19 ?_;refine Y15 ?_;refine Y19 ?_;refine yM ?_;refine xF ?_;refine Y7 ?_;refine Y19 ?_;refine Y15 ?_;refine Y19 ?_;refine Y15 ?_;refine Y19 ?_;refine yM ?_
  refine xM ?_;refine Y19 ?_;refine Y35 ?_;refine Y2 ?_;exact Tri.ret ⟨.inr rfl, ret1 rfl resV_tmp (bv_imp (by kernel_rfl))⟩
theorem gA_gL : ∀ g T p, get gA g = some (T, p) → get gL g = some (T, p) := by
 intro g T p h
 simp only [gA, get_cons, Hs.get] at h
 split at h
 ·rename_i e; subst e; exact h
 ·split at h
  ·rename_i e; subst e; exact h
  ·cases h
theorem awake_gL : FCall Tryz.prog gL 13 [] (bv true) := awake_c.moreG gA_gL
end Go.Proofs.YtkcgkignhpepkaaGreatDoor

/- Counters that stop, told by size and depth. -/
namespace Go.Proofs.YtkcgkignhpepkaaGreatDoor
open Go Hs
variable {G : List (Nat × TypeId × Pu)}
mutual
def pdeep : Pat → Nat
 | .mk _ _ _ ks => pdeepL ks + 1
def pdeepL : List Pat → Nat
 | [] => 0
 | p :: ps => max (pdeep p) (pdeepL ps)
end
mutual
def tdeep : Tm → Nat
 | .mk _ _ _ ks cs => max (tdeepL ks) (cdeepL cs) + 1
def tdeepL : List Tm → Nat
 | [] => 0
 | t :: ts => max (tdeep t) (tdeepL ts)
def cdeep : Cs → Nat
 | .mk p t => max (pdeep p) (tdeep t)
def cdeepL : List Cs → Nat
 | [] => 0
 | c :: cs => max (cdeep c) (cdeepL cs)
end
def LS (mn md : Int) (n dp : Nat) (d c : Int) (r : Bool × Int) : Prop := (c + n ≤ mn ∧ d + dp ≤ md + 1 → r = (false, c + n)) ∧ (¬ (c + n ≤ mn ∧ d + dp ≤ md + 1) → r.1 = true)
mutual
theorem longP_ls (mn md : Int) : ∀ (p : Pat) (d c : Int), LS mn md (psize p) (pdeep p) d c (longP mn md d c p)
 | .mk _ _ _ ks, d, c => by
  simp only [longP, psize, pdeep]
  split
  ·exact ⟨fun h => by omega, fun _ => rfl⟩
  ·have := longPs_ls mn md ks (d + 1) (c + 1) (by omega) (by omega)
   unfold LS at *
   rw [show c + ((1 + psizeL ks : Nat) : Int) = c + 1 + psizeL ks by omega, show d + ((pdeepL ks + 1 : Nat) : Int) = d + 1 + pdeepL ks by omega];exact this
theorem longPs_ls (mn md : Int) : ∀ (ks : List Pat) (d c : Int), c ≤ mn → d ≤ md + 1 → LS mn md (psizeL ks) (pdeepL ks) d c (longPs mn md d c ks)
 | [], d, c, hc, hd => ⟨fun _ => by simp [longPs, psizeL], fun h => by simp only [psizeL, pdeepL] at h; omega⟩
 | p :: ps, d, c, hc, hd => by
  obtain ⟨h1, h2⟩ := longP_ls mn md p d c
  simp only [longPs, psizeL, pdeepL]
  by_cases h : c + psize p ≤ mn ∧ d + pdeep p ≤ md + 1
  ·rw [h1 h]
   obtain ⟨h3, h4⟩ := longPs_ls mn md ps d (c + psize p) h.1 hd
   refine ⟨fun h5 => ?_, fun h5 => ?_⟩
   ·show longPs mn md d (c + psize p) ps = _
    rw [h3 (by omega)]; congr 1; omega
   ·exact h4 (by omega)
  ·have h3 := h2 h
   generalize longP mn md d c p = r at h3
   obtain ⟨b, c'⟩ := r
   simp only at h3
   subst h3;exact ⟨fun h5 => by omega, fun _ => rfl⟩
end
mutual
theorem longT_ls (mn md : Int) : ∀ (p : Tm) (d c : Int), LS mn md (tsize p) (tdeep p) d c (longT mn md d c p)
 | .mk _ _ _ ks cs, d, c => by
  simp only [longT, tsize, tdeep]
  split
  ·exact ⟨fun h => by omega, fun _ => rfl⟩
  ·obtain ⟨h1, h2⟩ := longTs_ls mn md ks (d + 1) (c + 1) (by omega) (by omega)
   by_cases h : c + 1 + tsizeL ks ≤ mn ∧ d + 1 + tdeepL ks ≤ md + 1
   ·rw [h1 h]
    obtain ⟨h3, h4⟩ := longCs_ls mn md cs (d + 1) (c + 1 + tsizeL ks) h.1 (by omega)
    refine ⟨fun h5 => ?_, fun h5 => ?_⟩
    ·show longCs mn md (d + 1) (c + 1 + tsizeL ks) cs = _
     rw [h3 (by omega)]; congr 1; omega
    ·exact h4 (by omega)
   ·have h3 := h2 h
    generalize longTs mn md (d + 1) (c + 1) ks = r at h3
    obtain ⟨b, c'⟩ := r
    simp only at h3
    subst h3;exact ⟨fun h5 => by omega, fun _ => rfl⟩
theorem longTs_ls (mn md : Int) : ∀ (ks : List Tm) (d c : Int), c ≤ mn → d ≤ md + 1 → LS mn md (tsizeL ks) (tdeepL ks) d c (longTs mn md d c ks)
 | [], d, c, hc, hd => ⟨fun _ => by simp [longTs, tsizeL], fun h => by simp only [tsizeL, tdeepL] at h; omega⟩
 | p :: ps, d, c, hc, hd => by
  obtain ⟨h1, h2⟩ := longT_ls mn md p d c
  simp only [longTs, tsizeL, tdeepL]
  by_cases h : c + tsize p ≤ mn ∧ d + tdeep p ≤ md + 1
  ·rw [h1 h]
   obtain ⟨h3, h4⟩ := longTs_ls mn md ps d (c + tsize p) h.1 hd
   refine ⟨fun h5 => ?_, fun h5 => ?_⟩
   ·show longTs mn md d (c + tsize p) ps = _
    rw [h3 (by omega)]; congr 1; omega
   ·exact h4 (by omega)
  ·have h3 := h2 h
   generalize longT mn md d c p = r at h3
   obtain ⟨b, c'⟩ := r
   simp only at h3
   subst h3;exact ⟨fun h5 => by omega, fun _ => rfl⟩
theorem longC_ls (mn md : Int) : ∀ (p : Cs) (d c : Int), LS mn md (csize p) (cdeep p) d c (longC mn md d c p)
 | .mk q t, d, c => by
  obtain ⟨h1, h2⟩ := longP_ls mn md q d c
  simp only [longC, csize, cdeep]
  have hp := tsize_pos t
  by_cases h : c + psize q ≤ mn ∧ d + pdeep q ≤ md + 1
  ·rw [h1 h]
   obtain ⟨h3, h4⟩ := longT_ls mn md t d (c + psize q)
   refine ⟨fun h5 => ?_, fun h5 => ?_⟩
   ·show longT mn md d (c + psize q) t = _
    rw [h3 (by omega)]; congr 1; omega
   ·exact h4 (by omega)
  ·have h3 := h2 h
   generalize longP mn md d c q = r at h3
   obtain ⟨b, c'⟩ := r
   simp only at h3
   subst h3;exact ⟨fun h5 => by omega, fun _ => rfl⟩
theorem longCs_ls (mn md : Int) : ∀ (ks : List Cs) (d c : Int), c ≤ mn → d ≤ md + 1 → LS mn md (csizeL ks) (cdeepL ks) d c (longCs mn md d c ks)
 | [], d, c, hc, hd => ⟨fun _ => by simp [longCs, csizeL], fun h => by simp only [csizeL, cdeepL] at h; omega⟩
 | p :: ps, d, c, hc, hd => by
  obtain ⟨h1, h2⟩ := longC_ls mn md p d c
  simp only [longCs, csizeL, cdeepL]
  by_cases h : c + csize p ≤ mn ∧ d + cdeep p ≤ md + 1
  ·rw [h1 h]
   obtain ⟨h3, h4⟩ := longCs_ls mn md ps d (c + csize p) h.1 hd
   refine ⟨fun h5 => ?_, fun h5 => ?_⟩
   ·show longCs mn md d (c + csize p) ps = _
    rw [h3 (by omega)]; congr 1; omega
   ·exact h4 (by omega)
  ·have h3 := h2 h
   generalize longC mn md d c p = r at h3
   obtain ⟨b, c'⟩ := r
   simp only at h3
   subst h3;exact ⟨fun h5 => by omega, fun _ => rfl⟩
end
end Go.Proofs.YtkcgkignhpepkaaGreatDoor

/- The reference: what fits. -/
namespace Go.Proofs.YtkcgkignhpepkaaGreatDoor
open Go Hs
variable {G : List (Nat × TypeId × Pu)}
end Go.Proofs.YtkcgkignhpepkaaGreatDoor

/- Numbers that are ints. -/
namespace Go.Proofs.YtkcgkignhpepkaaGreatDoor
open Go Hs
variable {G : List (Nat × TypeId × Pu)}
mutual
def rgT : Tm → Prop
 | .mk _ n _ ks cs => (-2^63 ≤ n ∧ n < 2^63) ∧ rgK ks ∧ rgC cs
def rgK : List Tm → Prop
 | [] => True
 | t :: ts => rgT t ∧ rgK ts
def rgC : List Cs → Prop
 | [] => True
 | c :: cs => rgS c ∧ rgC cs
def rgS : Cs → Prop
 | .mk _ t => rgT t
end
end Go.Proofs.YtkcgkignhpepkaaGreatDoor

/- The reference: numbers of terms and patterns. -/
namespace Go.Proofs.YtkcgkignhpepkaaGreatDoor
open Go Hs
variable {G : List (Nat × TypeId × Pu)}
end Go.Proofs.YtkcgkignhpepkaaGreatDoor

/- The reference: how many nodes, and how deep. -/
namespace Go.Proofs.YtkcgkignhpepkaaGreatDoor
open Go Hs
variable {G : List (Nat × TypeId × Pu)}
end Go.Proofs.YtkcgkignhpepkaaGreatDoor

/- The reference: whether a term is too long; the errors of patterns. -/
namespace Go.Proofs.YtkcgkignhpepkaaGreatDoor
open Go Hs
variable {G : List (Nat × TypeId × Pu)}
end Go.Proofs.YtkcgkignhpepkaaGreatDoor

/- The reference: the errors of patterns and terms. -/
namespace Go.Proofs.YtkcgkignhpepkaaGreatDoor
open Go Hs
variable {G : List (Nat × TypeId × Pu)}
end Go.Proofs.YtkcgkignhpepkaaGreatDoor

/- The reference: the errors of terms, and of worlds. -/
namespace Go.Proofs.YtkcgkignhpepkaaGreatDoor
open Go Hs
variable {G : List (Nat × TypeId × Pu)}
theorem notOff {k : Int} (h : offM k 1 12 = false) : 1 ≤ k ∧ k ≤ 12 := by unfold offM at h; simp at h; omega
end Go.Proofs.YtkcgkignhpepkaaGreatDoor

/- The reference: the error of a world and a term. -/
namespace Go.Proofs.YtkcgkignhpepkaaGreatDoor
open Go Hs
variable {G : List (Nat × TypeId × Pu)}
end Go.Proofs.YtkcgkignhpepkaaGreatDoor

/- The reference: what fits, and the place of work. -/
namespace Go.Proofs.YtkcgkignhpepkaaGreatDoor
open Go Hs
variable {G : List (Nat × TypeId × Pu)}
def fitI (v : Tm) : List Cs → Nat → Option (Nat × List Tm)
 | [], _ => none
 | .mk q _ :: cs, i => if (fitsM q v).2 then some (i, (fitsM q v).1) else fitI v cs (i + 1)
def workI (k : Int) (ks : List Tm) : Option Nat := (ks.take (manyM k ks.length)).findIdx? fun x => !valM x
theorem placeL_work (many : Nat) : ∀ (ks : List Tm) (i : Nat), placeL many i ks = match (ks.take (many - i)).findIdx? (fun x => !valM x) with
  | some j => (i + j) :: (match ks[j]? with | some x => placeM x | none => [])
  | none => []
 | [], i => by simp [placeL]
 | t :: ts, i => by
  simp only [placeL]
  split
  ·rename_i h
   obtain ⟨d, hd⟩ : ∃ d, many - i = d + 1 := ⟨many - i - 1, by omega⟩
   have ih := placeL_work many ts (i + 1)
   rw [show many - (i + 1) = d by omega] at ih
   rw [hd, List.take_succ_cons, List.findIdx?_cons]
   split
   ·rename_i hv
    simp only [hv, Bool.not_true, Bool.false_eq_true, if_false]
    rw [ih]
    cases (ts.take d).findIdx? (fun x => !valM x) with
    | none => rfl
    | some j => simp only [Option.map_some, List.getElem?_cons_succ]; congr 1; omega
   ·rename_i hv
    simp [hv]
  ·rename_i h
   rw [show many - i = 0 by omega]; rfl
theorem place_work (k n : Int) (r : List Int) (ks : List Tm) (cs : List Cs) : placeM (.mk k n r ks cs) = match workI k ks with
  | some j => j :: (match ks[j]? with | some x => placeM x | none => [])
  | none => [] := by
 simp only [placeM]
 rw [placeL_work]
 simp only [Nat.sub_zero, Nat.zero_add]
 rfl
theorem workI_some {k : Int} {ks : List Tm} {j : Nat} (h : workI k ks = some j) : j < manyM k ks.length ∧ ∃ x, ks[j]? = some x ∧ valM x = false := by
 unfold workI at h
 obtain ⟨h1, h2, _⟩ := List.findIdx?_eq_some_iff_getElem.1 h
 rw [List.length_take] at h1
 refine ⟨by omega, ks[j]'(by omega), List.getElem?_eq_getElem _, ?_⟩
 simpa using h2
end Go.Proofs.YtkcgkignhpepkaaGreatDoor

/- The reference: the place of work, and the next step. -/
namespace Go.Proofs.YtkcgkignhpepkaaGreatDoor
open Go Hs
variable {G : List (Nat × TypeId × Pu)}
end Go.Proofs.YtkcgkignhpepkaaGreatDoor

/- Right terms: what is kept by steps. -/
namespace Go.Proofs.YtkcgkignhpepkaaGreatDoor
open Go Hs
variable {G : List (Nat × TypeId × Pu)}
mutual
def gdT (d : Int) : Tm → Prop
 | .mk k n _ ks cs => (1 ≤ k ∧ k ≤ 12 ∧ k ≠ 7) ∧ kidsM k ks.length = true ∧ (k = 11 → 0 ≤ n ∧ n ≤ 7) ∧ (k = 1 → 0 ≤ n ∧ n < d) ∧ gdK d k 0 ks ∧ gdC d cs
def gdK (d k : Int) (i : Nat) : List Tm → Prop
 | [] => True
 | t :: ts => gdT (d + moreM k i) t ∧ gdK d k (i + 1) ts
def gdC (d : Int) : List Cs → Prop
 | [] => True
 | c :: cs => gdS d c ∧ gdC d cs
def gdS (d : Int) : Cs → Prop
 | .mk q t => perr q = 0 ∧ gdT (d + bindsM q) t
end
mutual
theorem gd_sh : ∀ {t : Tm} {d : Int}, gdT d t → shT t
 | .mk k n r ks cs, d, h => ⟨h.2.1, h.2.2.1, gdK_sh h.2.2.2.2.1, gdC_sh h.2.2.2.2.2⟩
theorem gdK_sh : ∀ {ks : List Tm} {d k : Int} {i : Nat}, gdK d k i ks → shL ks
 | [], _, _, _, _ => trivial
 | t :: ts, _, _, _, h => ⟨gd_sh h.1, gdK_sh h.2⟩
theorem gdC_sh : ∀ {cs : List Cs} {d : Int}, gdC d cs → shC cs
 | [], _, _ => trivial
 | .mk q t :: cs, _, h => ⟨gd_sh (t := t) h.1.2, gdC_sh h.2⟩
end
mutual
theorem gd_mono : ∀ {t : Tm} {d e : Int}, d ≤ e → gdT d t → gdT e t
 | .mk k n r ks cs, d, e, hd, h => ⟨h.1, h.2.1, h.2.2.1, fun hk => by have := h.2.2.2.1 hk; omega, gdK_mono hd h.2.2.2.2.1, gdC_mono hd h.2.2.2.2.2⟩
theorem gdK_mono : ∀ {ks : List Tm} {d e k : Int} {i : Nat}, d ≤ e → gdK d k i ks → gdK e k i ks
 | [], _, _, _, _, _, _ => trivial
 | t :: ts, d, e, k, i, hd, h => ⟨gd_mono (by omega) h.1, gdK_mono hd h.2⟩
theorem gdC_mono : ∀ {cs : List Cs} {d e : Int}, d ≤ e → gdC d cs → gdC e cs
 | [], _, _, _, _ => trivial
 | .mk q t :: cs, d, e, hd, h => ⟨⟨h.1.1, gd_mono (t := t) (d := d + bindsM q) (e := e + bindsM q) (by omega) h.1.2⟩, gdC_mono hd h.2⟩
end
theorem termErr_gd {b k n : Int} {r : List Int} {nk nc : Nat} (h : termErr 0 0 b k n r nk nc = 0) (hn : -2^63 ≤ n ∧ n < 2^63) (hb : 0 ≤ b ∧ b < 2^62) : (1 ≤ k ∧ k ≤ 12 ∧ k ≠ 7) ∧ kidsM k nk = true ∧ (k = 11 → 0 ≤ n ∧ n ≤ 7) ∧ (k = 1 → 0 ≤ n ∧ n < b) := by
 unfold termErr at h
 by_cases h0 : offM k 1 12 = true
 ·rw [if_pos h0] at h; omega
 rw [if_neg h0] at h
 have hk := notOff (by simpa using h0)
 by_cases h1 : clashM (hasNumM k) (hasRefM k) (hasCasesM k) n r nc = true
 ·rw [if_pos h1] at h; omega
 rw [if_neg h1] at h
 by_cases h2 : (!kidsM k nk || decide ((nc : Int) > 8)) = true
 ·rw [if_pos h2] at h; omega
 rw [if_neg h2] at h
 by_cases h3 : (k == 10 && offM n 1 5) = true
 ·rw [if_pos h3] at h; omega
 rw [if_neg h3] at h
 by_cases h4 : (k == 1 && !knownM 0 n b) = true
 ·rw [if_pos h4] at h; omega
 rw [if_neg h4] at h
 by_cases h5 : (k == 7 && (decide (n < 0) || decide (n ≥ 0))) = true
 ·rw [if_pos h5] at h; omega
 rw [if_neg h5] at h
 by_cases h6 : ((k == 2 || k == 8 || k == 11) && offM n 0 (if k == 8 || k == 11 then 7 else 1073741824)) = true
 ·rw [if_pos h6] at h; omega
 simp only [Bool.or_eq_true, not_or, Bool.not_eq_true, Bool.not_eq_false'] at h2
 refine ⟨⟨hk.1, hk.2, fun e => ?_⟩, by simpa using h2.1, fun e => ?_, fun e => ?_⟩
 ·subst e; simp at h5; omega
 ·subst e; simp [offM] at h6; omega
 ·subst e
  have h7 : knownM 0 n b = true := by simpa using h4
  simp only [knownM, Bool.and_eq_true, decide_eq_true_eq, Bool.or_eq_true] at h7
  refine ⟨by omega, ?_⟩
  rcases h7.2 with h | h
  ·exact h
  ·rw [wrap64 (by omega) (by omega)] at h; omega
mutual
theorem aerr_gd : ∀ {t : Tm} {b : Int}, aerr 0 0 b t = 0 → rgT t → 0 ≤ b → b + 2 * tsize t ≤ 2^60 → gdT b t
 | .mk k n r ks cs, b, h, hr, hb, hz => by
  simp only [aerr] at h
  obtain ⟨h1, h⟩ := orE_zero h
  obtain ⟨h0, h⟩ := orE_zero h
  obtain ⟨h2, h3⟩ := orE_zero h
  have hpe := firstE_zero h0
  simp only [tsize] at hz
  obtain ⟨g1, g2, g3, g4⟩ := termErr_gd h1 hr.1 (by omega)
  exact ⟨g1, g2, g3, g4, aerrK_gd h2 hr.2.1 hb (by omega), aerrC_gd h3 hpe hr.2.2 hb (by omega)⟩
theorem aerrK_gd : ∀ {ks : List Tm} {b k : Int} {i : Nat}, aerrK 0 0 b k i ks = 0 → rgK ks → 0 ≤ b → b + 2 + 2 * tsizeL ks ≤ 2^60 → gdK b k i ks
 | [], _, _, _, _, _, _, _ => trivial
 | t :: ts, b, k, i, h, hr, hb, hz => by
  simp only [aerrK] at h
  obtain ⟨h1, h2⟩ := orE_zero h
  simp only [tsizeL] at hz
  have := more_b k i
  exact ⟨aerr_gd h1 hr.1 (by omega) (by omega), aerrK_gd h2 hr.2 hb (by omega)⟩
theorem aerrC_gd : ∀ {cs : List Cs} {b : Int}, aerrC 0 0 b cs = 0 → (∀ c ∈ cs, perr (csP c) = 0) → rgC cs → 0 ≤ b → b + 2 + 2 * csizeL cs ≤ 2^60 → gdC b cs
 | [], _, _, _, _, _, _ => trivial
 | .mk q t :: cs, b, h, hp, hr, hb, hz => by
  simp only [aerrC, aerrCs] at h
  obtain ⟨h1, h2⟩ := orE_zero h
  simp only [csizeL, csize] at hz
  have := binds_bound q
  exact ⟨⟨hp _ (List.mem_cons_self ..), aerr_gd (t := t) h1 hr.1 (by omega) (by omega)⟩, aerrC_gd h2 (fun c hc => hp c (List.mem_cons_of_mem _ hc)) hr.2 hb (by omega)⟩
end
theorem check_gd {t : Tm} (h : checkM t 0 0 = 0) (hr : rgT t) : gdT 0 t := by
 have hz := (check_sh h).2
 unfold checkM at h
 split at h
 ·cases h
 ·exact aerr_gd h hr (by omega) (by omega)
theorem gdK_mem : ∀ {ks : List Tm} {d k : Int} {i : Nat}, gdK d k i ks → ∀ {j : Nat} {x : Tm}, ks[j]? = some x → gdT (d + moreM k ((i + j : Nat) : Int)) x
 | t :: ts, d, k, i, h, 0, x, hx => by simp at hx; subst hx; exact h.1
 | t :: ts, d, k, i, h, j + 1, x, hx => by
  have := gdK_mem h.2 (j := j) (by simpa using hx)
  rwa [show i + 1 + j = i + (j + 1) by omega] at this
theorem gd_kid {t : Tm} {d : Int} (h : gdT d t) {j : Nat} {x : Tm} (hx : t.kids[j]? = some x) : gdT (d + moreM t.kind (j : Nat)) x := by
 obtain ⟨k, n, r, ks, cs⟩ := t
 have := gdK_mem h.2.2.2.2.1 hx
 rwa [Nat.zero_add] at this
mutual
theorem put_gd (vs : List Tm) (hvs : ∀ v ∈ vs, gdT 0 v) : ∀ (t : Tm) (d : Int), 0 ≤ d → d + vs.length + 2 * tsize t ≤ 2^60 → gdT (d + vs.length) t → gdT d (putM vs d t)
 | .mk k n r ks cs, d, hd, hz, h => by
  simp only [tsize] at hz
  obtain ⟨h1, h2, h3, h4, h5, h6⟩ := h
  have hK := putK_gd vs hvs ks d k 0 hd (by omega) h5
  have hC := putC_gd vs hvs cs d hd (by omega) h6
  simp only [putM]
  split
  ·rename_i hc
   have hn := h4 hc.1
   have hw : IntKind.wrap .i64 (n - d) = n - d := wrap64 (by omega) (by omega)
   split
   ·exact gd_mono hd (hvs _ (List.getElem_mem _))
   ·rename_i hlt; omega
  ·rename_i hc
   refine ⟨h1, by rw [putK_len]; exact h2, h3, fun hk => ?_, hK, hC⟩
   have hn := h4 hk
   refine ⟨hn.1, ?_⟩
   by_cases hv : 0 < vs.length
   ·have : ¬ 0 ≤ IntKind.wrap .i64 (n - d) := fun h0 => hc ⟨hk, h0, hv⟩
    rw [wrap64 (by omega) (by omega)] at this
    omega
   ·omega
theorem putK_gd (vs : List Tm) (hvs : ∀ v ∈ vs, gdT 0 v) : ∀ (ks : List Tm) (d k : Int) (i : Nat), 0 ≤ d → d + vs.length + 2 + 2 * tsizeL ks ≤ 2^60 → gdK (d + vs.length) k i ks → gdK d k i (putK vs d k i ks)
 | [], _, _, _, _, _, _ => trivial
 | t :: ts, d, k, i, hd, hz, h => by
  simp only [tsizeL] at hz
  have hm := more_b k i
  simp only [putK]
  refine ⟨put_gd vs hvs t (d + moreM k i) (by omega) (by omega) ?_, putK_gd vs hvs ts d k (i + 1) hd (by omega) h.2⟩
  rw [show d + moreM k i + (vs.length : Int) = d + vs.length + moreM k i by omega];exact h.1
theorem putC_gd (vs : List Tm) (hvs : ∀ v ∈ vs, gdT 0 v) : ∀ (cs : List Cs) (d : Int), 0 ≤ d → d + vs.length + 2 + 2 * csizeL cs ≤ 2^60 → gdC (d + vs.length) cs → gdC d (putC vs d cs)
 | [], _, _, _, _ => trivial
 | .mk q t :: cs, d, hd, hz, h => by
  simp only [csizeL, csize] at hz
  have hm := binds_bound q
  simp only [putC, putS]
  refine ⟨⟨h.1.1, ?_⟩, putC_gd vs hvs cs d hd (by omega) h.2⟩
  have h1 : gdT (d + vs.length + bindsM q) t := h.1.2
  show gdT (d + bindsM q) (putM vs (d + bindsM q) t)
  exact put_gd vs hvs t (d + bindsM q) (by omega) (by omega) (by rw [show d + bindsM q + (vs.length : Int) = d + vs.length + bindsM q by omega]; exact h1)
end
theorem more8 (i : Int) : moreM 8 i = 0 := by unfold moreM; simp
mutual
theorem fits_gd : ∀ (p : Pat) {v : Tm} {d : Int}, gdT d v → ∀ x ∈ (fitsM p v).1, gdT d x
 | .mk k n r ks, v, d, h, x, hx => by
  simp only [fitsM] at hx
  split at hx
  ·simp at hx; subst hx; exact h
  ·split at hx
   ·simp at hx
   ·split at hx
    ·split at hx
     ·simp at hx
     ·rename_i hc
      have hk8 : v.kind = 8 := by simp at hc; exact hc.1.1.1
      refine fitsL_gd ks (fun j y hy => ?_) x hx
      have := gd_kid h hy
      rwa [hk8, more8, Int.add_zero] at this
    ·simp at hx
theorem fitsL_gd : ∀ (ps : List Pat) {vs : List Tm} {d : Int}, (∀ (j : Nat) (y : Tm), vs[j]? = some y → gdT d y) → ∀ x ∈ (fitsL ps vs).1, gdT d x
 | [], vs, d, _, x, hx => by simp [fitsL] at hx
 | _ :: _, [], d, _, x, hx => by simp [fitsL] at hx
 | p :: ps, v :: vs, d, h, x, hx => by
  simp only [fitsL, fitAdd] at hx
  split at hx
  ·simp only [List.mem_append] at hx
   rcases hx with hx | hx
   ·exact fits_gd p (h 0 v rfl) x hx
   ·exact fitsL_gd ps (fun j y hy => h (j + 1) y (by simpa using hy)) x hx
  ·simp at hx
end
mutual
theorem fits_binds : ∀ (p : Pat) (v : Tm), (fitsM p v).2 = true → perr p = 0 → ((fitsM p v).1.length : Int) = bindsM p
 | .mk k n r ks, v, h, he => by
  simp only [perr] at he
  have hpe : patErr k n r ks.length = 0 := by split at he <;> assumption
  rw [if_pos hpe] at he
  simp only [fitsM] at h ⊢
  simp only [bindsM]
  split
  ·simp
  ·rename_i h1
   rw [if_neg h1] at h
   split
   ·rename_i h2
    have : ks = [] := by
     unfold patErr at hpe
     subst h2
     by_cases g0 : offM 2 1 3 = true
     ·rw [if_pos g0] at hpe; omega
     rw [if_neg g0] at hpe
     by_cases g1 : clashM ((2 : Int) == 2 || (2 : Int) == 3) ((2 : Int) == 3) false n r 0 = true
     ·rw [if_pos g1] at hpe; omega
     rw [if_neg g1] at hpe
     by_cases g2 : decide ((ks.length : Int) > (if (2 : Int) == 3 then 4 else 0)) = true
     ·rw [if_pos g2] at hpe; omega
     simp at g2
     exact g2
    subst this
    simp [bindsL]
   ·rename_i h2
    rw [if_neg h2] at h
    split
    ·rename_i h3
     rw [if_pos h3] at h
     split
     ·rename_i h4; rw [if_pos h4] at h; cases h
     ·rename_i h4; rw [if_neg h4] at h
      exact fitsL_binds ks v.kids h he
    ·rename_i h3; rw [if_neg h3] at h; cases h
theorem fitsL_binds : ∀ (ps : List Pat) (vs : List Tm), (fitsL ps vs).2 = true → perrL ps = 0 → ((fitsL ps vs).1.length : Int) = bindsL ps
 | [], _, _, _ => by simp [fitsL, bindsL]
 | _ :: _, [], h, _ => by simp [fitsL] at h
 | p :: ps, v :: vs, h, he => by
  simp only [perrL] at he
  have hp : perr p = 0 := by split at he <;> assumption
  rw [if_pos hp] at he
  simp only [fitsL, fitAdd] at h ⊢
  split
  ·rename_i hb
   simp only [Bool.and_eq_true] at hb
   have h1 := fits_binds p v hb.1 hp
   have h2 := fitsL_binds ps vs hb.2 he
   simp only [List.length_append, bindsL]
   omega
  ·rename_i hb; rw [if_neg hb] at h; cases h
end
end Go.Proofs.YtkcgkignhpepkaaGreatDoor

/- The reference: the next step. -/
namespace Go.Proofs.YtkcgkignhpepkaaGreatDoor
open Go Hs
variable {G : List (Nat × TypeId × Pu)}
theorem match_none {v : Tm} : ∀ {cs : List Cs} {o : Nat}, fitI v cs o = none → matchM cs v = noneM
 | [], _, _ => rfl
 | .mk q b :: cs, o, h => by
  simp only [fitI] at h
  split at h
  ·cases h
  ·rename_i hf
   simp only [matchM, if_neg hf]
   exact match_none h
theorem match_gd {v : Tm} (hv : gdT 0 v) : ∀ {cs : List Cs} {o : Nat}, gdC 0 cs → tsize v + 2 * csizeL cs ≤ 2^50 → (fitI v cs o).isSome = true → gdT 0 (matchM cs v)
 | [], _, _, _, h => by simp [fitI] at h
 | .mk q b :: cs, o, hc, hz, h => by
  simp only [csizeL, csize] at hz
  simp only [fitI] at h
  simp only [matchM]
  split
  ·rename_i hf
   have hl := fits_binds q v hf hc.1.1
   have hb := fits_b q v
   refine put_gd _ (fits_gd q hv) b 0 (Int.le_refl _) (by omega) ?_;rw [hl];exact hc.1.2
  ·rename_i hf
   rw [if_neg hf] at h
   exact match_gd hv hc.2 (by omega) h
theorem match_kind {v : Tm} (hv : gdT 0 v) {cs : List Cs} (hc : gdC 0 cs) (hz : tsize v + 2 * csizeL cs ≤ 2^50) : ((matchM cs v).kind != 0) = (fitI v cs 0).isSome := by
 cases h : fitI v cs 0 with
 | none => rw [match_none h]; rfl
 | some x =>
  have := match_gd hv hc hz (by rw [h]; rfl)
  generalize matchM cs v = m at this
  obtain ⟨k, n, r, ks, cs'⟩ := m
  have h1 := this.1
  simp [Tm.kind]; omega
theorem gd_walk : ∀ {p : List Nat} {t : Tm}, gdT 0 t → (∀ i (_ : i < p.length), moreM (walkM t (p.take i)).kind ((p[i]'(by assumption) : Nat) : Int) = 0) → gdT 0 (walkM t p)
 | [], t, h, _ => h
 | j :: p, t, h, hm => by
  simp only [walkM]
  split
  ·rename_i x hx
   have h0 := hm 0 (by simp)
   simp only [List.take_zero, walkM, List.getElem_cons_zero] at h0
   have hg := gd_kid h hx
   rw [h0, Int.add_zero] at hg
   refine gd_walk hg fun i hi => ?_
   have := hm (i + 1) (by simpa using hi)
   simpa only [List.take_succ_cons, walkM, hx, List.getElem_cons_succ] using this
  ·exact h
theorem place_more : ∀ (N : Nat) (t : Tm), tsize t ≤ N → ∀ i (hi : i < (placeM t).length), moreM (walkM t ((placeM t).take i)).kind (((placeM t)[i] : Nat) : Int) = 0
 | 0, t, h, _, _ => by have := tsize_pos t; omega
 | N + 1, .mk k n r ks cs, h, i, hi => by
  have hpw := place_work k n r ks cs
  cases hw : workI k ks with
  | none => rw [hw] at hpw; simp only at hpw; rw [hpw] at hi; simp at hi
  | some j =>
   obtain ⟨hj1, x, hx, hxv⟩ := workI_some hw
   rw [hw] at hpw
   simp only [hx] at hpw
   generalize placeM (.mk k n r ks cs) = p at hpw hi
   subst hpw
   have hxs := tsize_mem (List.mem_of_getElem? hx)
   simp only [tsize] at h
   cases i with
   | zero =>
    simp only [List.take_zero, walkM, Tm.kind, List.getElem_cons_zero]
    unfold manyM at hj1
    unfold moreM
    split at hj1
    ·rw [if_neg (by omega), if_neg (by omega)]
    ·split at hj1
     ·rw [if_neg (by omega), if_neg (by omega)]
     ·omega
   | succ i =>
    simp only [List.take_succ_cons, walkM, Tm.kids, hx, List.getElem_cons_succ]
    exact place_more N x (by omega) i (by simpa using hi)
end Go.Proofs.YtkcgkignhpepkaaGreatDoor

/- Whether a term is more than is looked at. -/
namespace Go.Proofs.YtkcgkignhpepkaaGreatDoor
open Go Hs
variable {G : List (Nat × TypeId × Pu)}
end Go.Proofs.YtkcgkignhpepkaaGreatDoor

/- Whether a world is more than is looked at; a world's own copy. -/
namespace Go.Proofs.YtkcgkignhpepkaaGreatDoor
open Go Hs
section
variable {G : List (Nat × TypeId × Pu)} {lo : Nat}
end
variable {G : List (Nat × TypeId × Pu)}
end Go.Proofs.YtkcgkignhpepkaaGreatDoor

/- Worlds that are the same. -/
namespace Go.Proofs.YtkcgkignhpepkaaGreatDoor
open Go Hs
variable {G : List (Nat × TypeId × Pu)}
theorem eqLM_refl {α : Type} {φ : α → α → Bool} : ∀ {l : List α}, (∀ a ∈ l, φ a a = true) → eqLM φ l l = true
 | [], _ => rfl
 | a :: l, h => by simp only [eqLM, h a (by simp), Bool.true_and]; exact eqLM_refl fun x hx => h x (by simp [hx])
end Go.Proofs.YtkcgkignhpepkaaGreatDoor

/- Memory that may be spoilt: what it is, and that it stays so. -/
namespace Go.Proofs.YtkcgkignhpepkaaGreatDoor
open Go Hs
section
variable (m hi : Nat) (w : World)
end
section
variable {E : TypeId} {k : Nat} {Z : List Value → Prop} {m hi : Nat} {w w' w2 : World}
end
end Go.Proofs.YtkcgkignhpepkaaGreatDoor

/- Fresh trees may be spoilt. -/
namespace Go.Proofs.YtkcgkignhpepkaaGreatDoor
open Go Hs
section
variable {D : Nat → Nat → Prop} {w : World} {m hi : Nat}
end
end Go.Proofs.YtkcgkignhpepkaaGreatDoor

/- SpoilTerm: it writes in what may be spoilt alone. -/
namespace Go.Proofs.YtkcgkignhpepkaaGreatDoor
open Go Hs
end Go.Proofs.YtkcgkignhpepkaaGreatDoor

/- The reference: closed terms put for variables. -/
namespace Go.Proofs.YtkcgkignhpepkaaGreatDoor
open Go Hs
variable {G : List (Nat × TypeId × Pu)}
end Go.Proofs.YtkcgkignhpepkaaGreatDoor

/- The reference: a part of a term, set. -/
namespace Go.Proofs.YtkcgkignhpepkaaGreatDoor
open Go Hs
variable {G : List (Nat × TypeId × Pu)}
def setM : Tm → List Nat → Tm → Tm
 | _, [], u => u
 | t, j :: q, u => match t.kids[j]? with
  | some x => setKid t j (setM x q u)
  | none => t
end Go.Proofs.YtkcgkignhpepkaaGreatDoor

/- Values put at once, and one after the other; a part set, and the way filled. -/
namespace Go.Proofs.YtkcgkignhpepkaaGreatDoor
open Go Hs
end Go.Proofs.YtkcgkignhpepkaaGreatDoor

/- The way filled is a part set. -/
namespace Go.Proofs.YtkcgkignhpepkaaGreatDoor
open Go Hs
theorem fill_cons (t : Tm) (j : Nat) (way : List Tm) (q : List Nat) : ∀ (m : Nat) (y : Tm), m ≤ way.length → m ≤ q.length → fillM (t :: way) (j :: q) 0 (m + 1) y = setKid t j (fillM way q 0 m y)
 | 0, y, _, _ => by simp [fillM]
 | m + 1, y, h1, h2 => by
  have e1 : fillM (t :: way) (j :: q) 0 (m + 1 + 1) y = fillM (t :: way) (j :: q) 0 (m + 1) (setKid way[m] q[m] y) := by
   rw [fillM]
   simp [List.getElem?_eq_getElem (show m < way.length by omega), List.getElem?_eq_getElem (show m < q.length by omega)]
  have e2 : fillM way q 0 (m + 1) y = fillM way q 0 m (setKid way[m] q[m] y) := by
   rw [fillM]
   simp [List.getElem?_eq_getElem (show m < way.length by omega), List.getElem?_eq_getElem (show m < q.length by omega)]
  rw [e1, e2, fill_cons t j way q m _ (by omega) (by omega)]
theorem fill_set : ∀ {p : List Nat} {t : Tm} (n : Nat) (y : Tm), okP t p → n ≤ p.length → fillM (wayM t p) p 0 n y = setM t (p.take n) y
 | [], t, n, y, _, h => by
  have : n = 0 := by simpa using h
  subst this
  simp [fillM, setM]
 | j :: q, t, 0, y, _, _ => by simp [fillM, setM]
 | j :: q, t, n + 1, y, ⟨x, hx, hok⟩, h => by
  simp only [List.length_cons] at h
  have hw : wayM t (j :: q) = t :: wayM x q := by simp [wayM, hx]
  rw [hw, fill_cons t j _ q n y (by rw [way_len hok]; omega) (by omega), fill_set n y hok (by omega)]
  simp [setM, hx]
theorem fill_drop (way : List Tm) (path : List Nat) (lo : Nat) : ∀ (m : Nat) (y : Tm), lo + m ≤ way.length → lo + m ≤ path.length → fillM way path lo (lo + m) y = fillM (way.drop lo) (path.drop lo) 0 m y
 | 0, y, _, _ => by
  cases lo with
  | zero => rfl
  | succ l => simp [fillM]
 | m + 1, y, h1, h2 => by
  have e1 : fillM way path lo (lo + (m + 1)) y = fillM way path lo (lo + m) (setKid way[lo + m] path[lo + m] y) := by
   rw [show lo + (m + 1) = (lo + m) + 1 by omega, fillM, if_neg (by omega)]
   simp [List.getElem?_eq_getElem (show lo + m < way.length by omega), List.getElem?_eq_getElem (show lo + m < path.length by omega)]
  have e2 : fillM (way.drop lo) (path.drop lo) 0 (m + 1) y = fillM (way.drop lo) (path.drop lo) 0 m (setKid way[lo + m] path[lo + m] y) := by
   rw [fillM]
   simp [List.getElem?_drop, List.getElem?_eq_getElem (show lo + m < way.length by omega), List.getElem?_eq_getElem (show lo + m < path.length by omega)]
  rw [e1, e2, fill_drop way path lo m _ (by omega) (by omega)]
theorem way_drop : ∀ {p : List Nat} {t : Tm} (n : Nat), okP t p → n ≤ p.length → (wayM t p).drop n = wayM (walkM t (p.take n)) (p.drop n) ∧ okP (walkM t (p.take n)) (p.drop n)
 | p, t, 0, h, _ => by simp only [List.drop_zero, List.take_zero, walkM]; exact ⟨trivial, h⟩
 | [], t, n + 1, _, h => by simp at h
 | j :: q, t, n + 1, ⟨x, hx, hok⟩, h => by
  simp only [List.length_cons] at h
  obtain ⟨h1, h2⟩ := way_drop n hok (by omega)
  simp only [wayM, hx, List.drop_succ_cons, List.take_succ_cons, walkM]
  exact ⟨h1, h2⟩
theorem fill_from {p : List Nat} {t : Tm} {n : Nat} (y : Tm) (hok : okP t p) (hn : n ≤ p.length) : fillM (wayM t p) p n p.length y = setM (walkM t (p.take n)) (p.drop n) y := by
 obtain ⟨h1, h2⟩ := way_drop n hok hn
 have := fill_drop (wayM t p) p n (p.length - n) y (by rw [way_len hok]; omega) (by omega)
 rw [show n + (p.length - n) = p.length by omega] at this
 rw [this, h1, fill_set _ y h2 (by simp)]
 congr 1
 rw [← List.length_drop, List.take_length]
theorem here_set {p : List Nat} {t : Tm} (y : Tm) (hok : okP t p) : hereM t p y = setM t p y := by
 unfold hereM
 rw [fill_set p.length y hok (Nat.le_refl _), List.take_length]
end Go.Proofs.YtkcgkignhpepkaaGreatDoor

/- A step makes right terms of right terms. -/
namespace Go.Proofs.YtkcgkignhpepkaaGreatDoor
open Go Hs
theorem gdK_set : ∀ {ks : List Tm} {d k : Int} {i j : Nat} {x : Tm}, gdK d k i ks → gdT (d + moreM k ((i + j : Nat) : Int)) x → gdK d k i (ks.set j x)
 | [], _, _, _, _, _, _, _ => trivial
 | t :: ts, d, k, i, 0, x, h, hx => ⟨hx, h.2⟩
 | t :: ts, d, k, i, j + 1, x, h, hx => ⟨h.1, gdK_set (i := i + 1) (j := j) h.2 (by rwa [show i + 1 + j = i + (j + 1) by omega])⟩
def freeP (t : Tm) (p : List Nat) : Prop := ∀ i (_ : i < p.length), moreM (walkM t (p.take i)).kind ((p[i]'(by assumption) : Nat) : Int) = 0
theorem freeP_cons {t x : Tm} {j : Nat} {q : List Nat} (h : freeP t (j :: q)) (hx : t.kids[j]? = some x) : moreM t.kind (j : Nat) = 0 ∧ freeP x q := by
 refine ⟨h 0 (by simp), fun i hi => ?_⟩
 have := h (i + 1) (by simpa using hi)
 simpa only [List.take_succ_cons, walkM, hx, List.getElem_cons_succ] using this
theorem freeP_place (t : Tm) : freeP t (placeM t) := fun i hi => place_more _ t (Nat.le_refl _) i hi
theorem freeP_take {t : Tm} {p : List Nat} (h : freeP t p) (n : Nat) : freeP t (p.take n) := fun i hi => by
 have hl : i < p.length := by simp at hi; omega
 have hn : i < n := by simp at hi; omega
 have := h i hl
 rw [List.take_take, Nat.min_eq_left (by omega), List.getElem_take];exact this
theorem walk_take : ∀ {p : List Nat} {t : Tm} (n i : Nat), okP t p → n + i ≤ p.length → walkM (walkM t (p.take n)) ((p.drop n).take i) = walkM t (p.take (n + i))
 | p, t, 0, i, _, _ => by simp [walkM]
 | [], t, n + 1, i, _, h => by simp at h
 | j :: q, t, n + 1, i, ⟨x, hx, hok⟩, h => by
  simp only [List.length_cons] at h
  rw [show n + 1 + i = (n + i) + 1 by omega]
  simp only [List.take_succ_cons, List.drop_succ_cons, walkM, hx]
  exact walk_take n i hok (by omega)
theorem freeP_drop {t : Tm} {p : List Nat} (h : freeP t p) (hok : okP t p) (n : Nat) (hn : n ≤ p.length) : freeP (walkM t (p.take n)) (p.drop n) := fun i hi => by
 have hl : n + i < p.length := by simp at hi; omega
 rw [walk_take n i hok (by omega), List.getElem_drop];exact h (n + i) hl
theorem set_gd {y : Tm} : ∀ {p : List Nat} {t : Tm} {d : Int}, freeP t p → gdT d t → gdT d y → gdT d (setM t p y)
 | [], _, _, _, _, hy => hy
 | j :: q, .mk k n r ks cs, d, hf, h, hy => by
  simp only [setM]
  split
  ·rename_i x hx
   obtain ⟨h0, hq⟩ := freeP_cons hf hx
   simp only [kind_mk] at h0
   simp only [kids_mk] at hx
   have hg := gdK_mem h.2.2.2.2.1 hx
   rw [Nat.zero_add, h0, Int.add_zero] at hg
   refine ⟨h.1, by rw [List.length_set]; exact h.2.1, h.2.2.1, h.2.2.2.1, gdK_set h.2.2.2.2.1 ?_, h.2.2.2.2.2⟩
   rw [Nat.zero_add, h0, Int.add_zero];exact set_gd hq hg hy
  ·exact h
theorem gd_nat (n d : Int) : gdT d (natM n) := ⟨⟨by omega, by omega, by omega⟩, by simp [kidsM], fun h => by omega, fun h => by omega, trivial, trivial⟩
theorem gd_var : gdT 1 varM := ⟨⟨by omega, by omega, by omega⟩, by simp [kidsM], fun h => by omega, fun _ => by omega, trivial, trivial⟩
theorem more_app (i : Nat) : moreM 4 (i : Int) = 0 := by unfold moreM; rw [if_neg (by omega), if_neg (by omega)]
theorem more_let0 {k : Int} (h : k = 5 ∨ k = 12 ∨ k = 9 ∨ k = 11) : moreM k ((0 : Nat) : Int) = 0 := by unfold moreM; rw [if_neg (by omega), if_neg (by omega)]
theorem more_let1 {k : Int} (h : k = 5 ∨ k = 12) : moreM k ((1 : Nat) : Int) = 1 := by unfold moreM; rw [if_pos (by omega)]
theorem more_han {i : Nat} (h : 2 ≤ i) : moreM 12 (i : Int) = 2 := by unfold moreM; rw [if_neg (by omega), if_pos (by omega)]
theorem put1_gd {x b : Tm} (hx : gdT 0 x) (hb : gdT 1 b) (hz : tsize b < 2^40) : gdT 0 (putM [x] 0 b) :=
 put_gd [x] (fun v hv => by simp at hv; subst hv; exact hx) b 0 (by omega) (by simp; omega) (by simpa using hb)
theorem app_gd {w f x b : Tm} (hw : gdT 0 w) (hk : w.kind = 4) (h0 : w.kids[0]? = some f) (hf : f.kind = 3) (h1 : w.kids[1]? = some x) (hb : f.kids[0]? = some b) : gdT 0 x ∧ gdT 1 b := by
 have e0 := gd_kid hw h0
 have e1 := gd_kid hw h1
 rw [hk, more_app, Int.add_zero] at e0 e1
 have e2 := gd_kid e0 hb
 rw [hf] at e2
 exact ⟨e1, by simpa [moreM] using e2⟩
theorem let_gd {w x b : Tm} (hw : gdT 0 w) (hk : w.kind = 5 ∨ w.kind = 12) (h0 : w.kids[0]? = some x) (h1 : w.kids[1]? = some b) : gdT 0 x ∧ gdT 1 b := by
 have e0 := gd_kid hw h0
 have e1 := gd_kid hw h1
 rw [more_let0 (by omega), Int.add_zero] at e0
 rw [more_let1 hk] at e1
 exact ⟨e0, by simpa using e1⟩
end Go.Proofs.YtkcgkignhpepkaaGreatDoor

/- The reference: numbers, and what is right. -/
namespace Go.Proofs.YtkcgkignhpepkaaGreatDoor
open Go Hs
variable {G : List (Nat × TypeId × Pu)}
end Go.Proofs.YtkcgkignhpepkaaGreatDoor

/- A step makes a right term of a right one. -/
namespace Go.Proofs.YtkcgkignhpepkaaGreatDoor
open Go Hs
theorem way_at {t : Tm} {p : List Nat} (hok : okP t p) {n : Nat} (hn : n ≤ p.length) {x : Tm} (h : (wayM t p)[n]? = some x) : x = walkM t (p.take n) := by
 rw [way_get hok hn] at h
 exact (Option.some.inj h).symm
theorem hand_at : ∀ (way : List Tm) (r : List Int) (n : Nat), 0 ≤ handM way r n → ∃ x, way[(handM way r n).toNat]? = some x ∧ x.kind = 12 ∧ x.ref = r ∧ (handM way r n).toNat < n
 | way, r, 0, h => by simp [handM] at h
 | way, r, n + 1, h => by
  cases hx : way[n]? with
  | none =>
   have e : handM way r (n + 1) = handM way r n := by simp only [handM, hx]
   rw [e] at h ⊢
   obtain ⟨y, h1, h2, h3, h4⟩ := hand_at way r n h
   exact ⟨y, h1, h2, h3, by omega⟩
  | some x =>
   by_cases hc : (x.kind == 12 && x.ref == r) = true
   ·have e : handM way r (n + 1) = n := by simp only [handM, hx, if_pos hc]
    rw [e, Int.toNat_natCast]
    simp at hc
    exact ⟨x, hx, hc.1, hc.2, by omega⟩
   ·have e : handM way r (n + 1) = handM way r n := by simp only [handM, hx, if_neg hc]
    rw [e] at h ⊢
    obtain ⟨y, h1, h2, h3, h4⟩ := hand_at way r n h
    exact ⟨y, h1, h2, h3, by omega⟩
theorem gd_at {t : Tm} {p : List Nat} (hg : gdT 0 t) (hf : freeP t p) (n : Nat) : gdT 0 (walkM t (p.take n)) := gd_walk hg (freeP_take hf n)
theorem back_gd {t : Tm} {p : List Nat} (hg : gdT 0 t) (hok : okP t p) (hf : freeP t p) {n : Nat} (hn : n ≤ p.length) : gdT 0 (backM t p n) := by
 refine ⟨⟨by omega, by omega, by omega⟩, by simp [kidsM], fun h => by omega, fun h => by omega, ⟨?_, trivial⟩, trivial⟩
 rw [fill_from varM hok hn]
 have : moreM 3 ((0 : Nat) : Int) = 1 := by simp [moreM]
 rw [this];exact set_gd (freeP_drop hf hok n hn) (gd_mono (by omega) (gd_at hg hf n)) gd_var
end Go.Proofs.YtkcgkignhpepkaaGreatDoor

/- A step makes a right term of a right one. -/
namespace Go.Proofs.YtkcgkignhpepkaaGreatDoor
open Go Hs
theorem bod_some {s : List Int} {y : Tm} : ∀ {ts : List KT}, bodM s ts = some y → ∃ x ∈ ts, x.2 = y
 | [], h => by simp [bodM] at h
 | x :: ts, h => by
  simp only [bodM] at h
  split at h
  ·simp at h; exact ⟨x, by simp, h⟩
  ·obtain ⟨z, h1, h2⟩ := bod_some h
   exact ⟨z, by simp [h1], h2⟩
theorem kind5 {ts : List KT} {way : List Tm} {len : Nat} {w : Tm} (h : kindW ts way len w = 5) : w.kind = 9 ∧ ∃ v, w.kids[0]? = some v ∧ ((matchM w.cases v).kind != 0) = true := by
 have hk := (kind_inv h).2.2.2.2.1 rfl
 obtain ⟨k, n, r, ks, cs⟩ := w
 simp only [kind_mk] at hk
 subst hk
 refine ⟨rfl, ?_⟩
 simp only [kindW] at h
 simp at h
 simp only [kids_mk]
 cases hf : ks[0]? with
 | none => simp [hf] at h
 | some f =>
  refine ⟨f, rfl, ?_⟩
  simp only [hf] at h
  show ((matchM cs f).kind != 0) = true
  generalize hb : ((matchM cs f).kind != 0) = bb at h
  cases bb
  ·simp at h
  ·rfl
theorem does_gd {ts : List KT} {t : Tm} {p : List Nat} (hg : gdT 0 t) (hok : okP t p) (hf : freeP t p) (hN : tsize t < 2^28) (hb : ∀ x ∈ ts, gdT 0 x.2) {k : Int} (hk : kindM ts t p = k) (hk7 : k ≤ 7) : gdT 0 (doesM ts t p k) := by
 have hw := gd_walk hg hf
 have hws : tsize (walkM t p) ≤ tsize t := walk_size
 have hsh := gd_sh hw
 obtain ⟨i1, i2, i3, i4, i5, i6, i7, ⟨i8, _⟩, _⟩ := kind_inv hk
 have put : ∀ {y : Tm}, gdT 0 y → gdT 0 (hereM t p y) := fun {y} hy => by rw [here_set y hok]; exact set_gd hf hg hy
 have let' : (walkM t p).kind = 5 ∨ (walkM t p).kind = 12 → gdT 0 (letM (walkM t p)) := fun hkk => by
  obtain ⟨x, b, h0, h1⟩ : ∃ x b, (walkM t p).kids[0]? = some x ∧ (walkM t p).kids[1]? = some b := by
   rcases hkk with hkk | hkk
   ·exact len2 hsh (by omega)
   ·exact len12 hsh hkk
  obtain ⟨g1, g2⟩ := let_gd hw hkk h0 h1
  have := kid_size h1
  simp only [letM, h0, h1]
  exact put1_gd g1 g2 (by omega)
 unfold doesM
 by_cases e1 : k = 1
 ·rw [if_pos e1]
  obtain ⟨hk4, f, h0, hf3⟩ := i1 e1
  obtain ⟨f', x, h0', h1⟩ := len2 hsh (by omega)
  obtain rfl : f' = f := Option.some.inj (h0'.symm.trans h0)
  have hfs := gd_sh (gd_kid hw h0)
  obtain ⟨b, hb0⟩ := len1 hfs (by omega)
  obtain ⟨g1, g2⟩ := app_gd hw hk4 h0 hf3 h1 hb0
  have := kid_size h0
  have := kid_size hb0
  refine put ?_
  simp only [appM, h0, h1, hb0]
  exact put1_gd g1 g2 (by omega)
 rw [if_neg e1]
 by_cases e2 : k = 2
 ·rw [if_pos e2]; exact put (let' (.inl (i2 e2)))
 rw [if_neg e2]
 by_cases e3 : k = 3
 ·rw [if_pos e3]
  obtain ⟨_, h⟩ := i3 e3
  obtain ⟨y, hy⟩ := Option.isSome_iff_exists.1 h
  obtain ⟨x, hx, rfl⟩ := bod_some hy
  rw [hy];exact put (hb x hx)
 rw [if_neg e3]
 by_cases e4 : k = 4
 ·rw [if_pos e4]
  obtain ⟨x, y, h0, h1⟩ := len2 hsh (by have := i4 e4; omega)
  refine put ?_
  simp only [priM, h0, h1]
  exact gd_nat _ _
 rw [if_neg e4]
 by_cases e5 : k = 5
 ·rw [if_pos e5]
  subst e5
  obtain ⟨hk9, v, h0, hm⟩ := kind5 hk
  have hv := gd_kid hw h0
  rw [more_let0 (by omega), Int.add_zero] at hv
  have hvs := kid_size h0
  refine put ?_
  simp only [matM, h0]
  generalize walkM t p = w at *
  obtain ⟨wk, wn, wr, ks, cs⟩ := w
  have hc := hw.2.2.2.2.2
  simp only [tsize] at hws hvs
  have hz : (tsize v : Int) + 2 * csizeL cs ≤ 2^50 := by omega
  rw [show (Tm.mk wk wn wr ks cs).cases = cs from rfl] at hm ⊢
  rw [match_kind hv hc (by omega)] at hm
  exact match_gd hv hc (by omega) hm
 rw [if_neg e5]
 by_cases e6 : k = 6
 ·rw [if_pos e6]
  obtain ⟨hk11, hn0, x, hx, hxl⟩ := i6 e6
  obtain ⟨y, hy, hy12, _, hnl⟩ := hand_at _ _ _ hn0
  obtain rfl : y = x := Option.some.inj (hy.symm.trans hx)
  obtain ⟨a, ha⟩ := len1 hsh (by omega)
  have hga := gd_kid hw ha
  rw [more_let0 (by omega), Int.add_zero] at hga
  have hnum : 0 ≤ (walkM t p).num := by
   generalize walkM t p = w at *
   obtain ⟨wk, wn, wr, ks, cs⟩ := w
   exact (hw.2.2.1 hk11).1
  have hxw := way_at hok (by omega) hx
  have hgx := gd_at hg hf (handM (wayM t p) (walkM t p).ref p.length).toNat
  rw [← hxw] at hgx
  obtain ⟨b, hbk⟩ : ∃ b, y.kids[(2 + (walkM t p).num).toNat]? = some b := ⟨_, List.getElem?_eq_getElem (by omega)⟩
  have hgb := gd_kid hgx hbk
  rw [hy12, more_han (by omega)] at hgb
  have hbs := kid_size hbk
  have hys : tsize y ≤ tsize t := by rw [hxw]; exact walk_size
  unfold doM
  rw [ha, ← hxw, hbk]
  simp only
  rw [fill_set _ _ hok (by omega)];refine set_gd (freeP_take hf _) hg (put_gd _ (fun v hv => ?_) b 0 (by omega) (by simp; omega) (by simpa using hgb))
  simp only [List.mem_cons, List.not_mem_nil, or_false] at hv
  rcases hv with rfl | rfl
  ·exact hga
  ·exact back_gd hg hok hf (by omega)
 rw [if_neg e6];exact put (let' (.inr (i7 (by omega))))
end Go.Proofs.YtkcgkignhpepkaaGreatDoor

/- Values put where more variables are free; the case that fits. -/
namespace Go.Proofs.YtkcgkignhpepkaaGreatDoor
open Go Hs
end Go.Proofs.YtkcgkignhpepkaaGreatDoor

/- The reference: the term behind a step. -/
namespace Go.Proofs.YtkcgkignhpepkaaGreatDoor
open Go Hs
variable {G : List (Nat × TypeId × Pu)}
end Go.Proofs.YtkcgkignhpepkaaGreatDoor

/- StepChecks: the walk. -/
namespace Go.Proofs.YtkcgkignhpepkaaGreatDoor
open Go Hs
end Go.Proofs.YtkcgkignhpepkaaGreatDoor

/- What the checker asks at each node alone, and that steps keep it. -/
namespace Go.Proofs.YtkcgkignhpepkaaGreatDoor
open Go Hs
def locM (k n : Int) (r : List Int) (nc : Nat) : Prop :=
 clashM (hasNumM k) (hasRefM k) (hasCasesM k) n r nc = false ∧ nc ≤ 8 ∧ (k == 10 && offM n 1 5) = false ∧ ((k == 2 || k == 8 || k == 11) && offM n 0 (if k == 8 || k == 11 then 7 else 1073741824)) = false
mutual
def lcT : Tm → Prop
 | .mk k n r ks cs => locM k n r cs.length ∧ lcK ks ∧ lcC cs
def lcK : List Tm → Prop
 | [] => True
 | t :: ts => lcT t ∧ lcK ts
def lcC : List Cs → Prop
 | [] => True
 | c :: cs => lcS c ∧ lcC cs
def lcS : Cs → Prop
 | .mk _ t => lcT t
end
theorem termErr_loc {m d b k n : Int} {r : List Int} {nk nc : Nat} (h : termErr m d b k n r nk nc = 0) : locM k n r nc := by
 unfold termErr at h
 by_cases h0 : offM k 1 12 = true
 ·rw [if_pos h0] at h; omega
 rw [if_neg h0] at h
 by_cases h1 : clashM (hasNumM k) (hasRefM k) (hasCasesM k) n r nc = true
 ·rw [if_pos h1] at h; omega
 rw [if_neg h1] at h
 by_cases h2 : (!kidsM k nk || decide ((nc : Int) > 8)) = true
 ·rw [if_pos h2] at h; omega
 rw [if_neg h2] at h
 by_cases h3 : (k == 10 && offM n 1 5) = true
 ·rw [if_pos h3] at h; omega
 rw [if_neg h3] at h
 by_cases h4 : (k == 1 && !knownM d n b) = true
 ·rw [if_pos h4] at h; omega
 rw [if_neg h4] at h
 by_cases h5 : (k == 7 && (decide (n < 0) || decide (n ≥ m))) = true
 ·rw [if_pos h5] at h; omega
 rw [if_neg h5] at h
 by_cases h6 : ((k == 2 || k == 8 || k == 11) && offM n 0 (if k == 8 || k == 11 then 7 else 1073741824)) = true
 ·rw [if_pos h6] at h; omega
 simp only [Bool.or_eq_true, not_or, Bool.not_eq_true, decide_eq_true_eq] at h2
 exact ⟨by simpa using h1, by omega, by simpa using h3, by simpa using h6⟩
theorem loc_termErr {m d b k n : Int} {r : List Int} {nk nc : Nat} (h : locM k n r nc) (h1 : 1 ≤ k ∧ k ≤ 12 ∧ k ≠ 7) (h2 : kidsM k nk = true) (h3 : k = 1 → 0 ≤ n ∧ n < b) : termErr m d b k n r nk nc = 0 := by
 obtain ⟨g1, g2, g3, g4⟩ := h
 unfold termErr
 rw [if_neg (by simp [offM]; omega), if_neg (by rw [g1]; decide), if_neg (by rw [h2]; simp; omega), if_neg (by rw [g3]; decide)]
 rw [if_neg (by
  by_cases e : k = 1
  ·have := h3 e
   simp [e, knownM]; omega
  ·simp [e]), if_neg (by simp; omega), if_neg (by rw [g4]; decide)]
mutual
theorem aerr_lc {m d : Int} : ∀ {t : Tm} {b : Int}, aerr m d b t = 0 → lcT t
 | .mk k n r ks cs, b, h => by
  simp only [aerr] at h
  obtain ⟨h1, h⟩ := orE_zero h
  obtain ⟨_, h⟩ := orE_zero h
  obtain ⟨h2, h3⟩ := orE_zero h
  exact ⟨termErr_loc h1, aerrK_lc h2, aerrC_lc h3⟩
theorem aerrK_lc {m d : Int} : ∀ {ks : List Tm} {b k : Int} {i : Nat}, aerrK m d b k i ks = 0 → lcK ks
 | [], _, _, _, _ => trivial
 | t :: ts, b, k, i, h => by
  simp only [aerrK] at h
  obtain ⟨h1, h2⟩ := orE_zero h
  exact ⟨aerr_lc h1, aerrK_lc h2⟩
theorem aerrC_lc {m d : Int} : ∀ {cs : List Cs} {b : Int}, aerrC m d b cs = 0 → lcC cs
 | [], _, _ => trivial
 | .mk q t :: cs, b, h => by
  simp only [aerrC, aerrCs] at h
  obtain ⟨h1, h2⟩ := orE_zero h
  exact ⟨aerr_lc (t := t) h1, aerrC_lc h2⟩
end
mutual
theorem gd_aerr {m d : Int} : ∀ {t : Tm} {b : Int}, gdT b t → lcT t → aerr m d b t = 0
 | .mk k n r ks cs, b, h, hl => by
  obtain ⟨g1, g2, g3, g4, g5, g6⟩ := h
  simp only [aerr, loc_termErr hl.1 g1 g2 g4, gd_aerrK g5 hl.2.1, gd_aerrC g6 hl.2.2]
  have : firstE (fun c => perr (csP c)) cs = 0 := gdC_perr g6
  rw [this]; rfl
theorem gd_aerrK {m d : Int} : ∀ {ks : List Tm} {b k : Int} {i : Nat}, gdK b k i ks → lcK ks → aerrK m d b k i ks = 0
 | [], _, _, _, _, _ => rfl
 | t :: ts, b, k, i, h, hl => by
  simp only [aerrK, gd_aerr h.1 hl.1, gd_aerrK h.2 hl.2]; rfl
theorem gd_aerrC {m d : Int} : ∀ {cs : List Cs} {b : Int}, gdC b cs → lcC cs → aerrC m d b cs = 0
 | [], _, _, _ => rfl
 | .mk q t :: cs, b, h, hl => by
  have h1 : aerr m d (b + bindsM q) t = 0 := gd_aerr h.1.2 hl.1
  simp only [aerrC, aerrCs, h1, gd_aerrC h.2 hl.2]; rfl
theorem gdC_perr : ∀ {cs : List Cs} {b : Int}, gdC b cs → firstE (fun c => perr (csP c)) cs = 0
 | [], _, _ => rfl
 | .mk q t :: cs, b, h => by
  have h1 : perr q = 0 := h.1.1
  simp only [firstE, csP, h1, if_true]
  exact gdC_perr h.2
end
theorem lc_none : lcT noneM := by simp [noneM, lcT, lcK, lcC, locM, clashM, offM]
theorem lc_var : lcT varM := by simp [varM, lcT, lcK, lcC, locM, clashM, offM]
theorem cap_b (x : Int) : 0 ≤ capM x ∧ capM x ≤ 1073741824 := by unfold capM; omega
theorem lc_prim (op a b : Int) : lcT (primM op a b) := by
 have := cap_b (primV op a b)
 unfold primM natM
 generalize capM (primV op a b) = x at *
 simp [lcT, lcK, lcC, locM, clashM, offM, hasNumM]
 omega
theorem lcK_mem : ∀ {ks : List Tm}, lcK ks → ∀ x ∈ ks, lcT x
 | _ :: _, h, x, hx => by
  rcases List.mem_cons.1 hx with rfl | hx
  ·exact h.1
  ·exact lcK_mem h.2 x hx
theorem putC_len2 (vs : List Tm) : ∀ (cs : List Cs) (d : Int), (putC vs d cs).length = cs.length
 | [], _ => rfl
 | .mk q t :: cs, d => by simp [putC, putC_len2 vs cs d]
mutual
theorem lc_put (vs : List Tm) (hv : ∀ v ∈ vs, lcT v) : ∀ (t : Tm) (d : Int), lcT t → lcT (putM vs d t)
 | .mk k n r ks cs, d, h => by
  obtain ⟨h1, h3, h4⟩ := h
  have k1 := lc_putK vs hv ks d k 0 h3
  have k2 := lc_putC vs hv cs d h4
  simp only [putM]
  split
  ·rename_i hC
   split
   ·exact hv _ (List.getElem_mem _)
   ·refine ⟨?_, k1, k2⟩
    rw [putC_len2]
    have e := hC.1
    subst e
    simpa [locM, clashM, hasNumM] using h1
  ·exact ⟨by rw [putC_len2]; exact h1, k1, k2⟩
theorem lc_putK (vs : List Tm) (hv : ∀ v ∈ vs, lcT v) : ∀ (ks : List Tm) (d k : Int) (i : Nat), lcK ks → lcK (putK vs d k i ks)
 | [], _, _, _, _ => trivial
 | t :: ts, d, k, i, h => ⟨lc_put vs hv t _ h.1, lc_putK vs hv ts d k (i + 1) h.2⟩
theorem lc_putC (vs : List Tm) (hv : ∀ v ∈ vs, lcT v) : ∀ (cs : List Cs) (d : Int), lcC cs → lcC (putC vs d cs)
 | [], _, _ => trivial
 | c :: cs, d, h => ⟨lc_putS vs hv c d h.1, lc_putC vs hv cs d h.2⟩
theorem lc_putS (vs : List Tm) (hv : ∀ v ∈ vs, lcT v) : ∀ (c : Cs) (d : Int), lcS c → lcS (putS vs d c)
 | .mk q t, d, h => lc_put vs hv t _ h
end
theorem lc_kid {t x : Tm} {i : Nat} (h : lcT t) (hx : t.kids[i]? = some x) : lcT x := by
 obtain ⟨k, n, r, ks, cs⟩ := t
 exact lcK_mem h.2.1 _ (List.mem_of_getElem? hx)
theorem lc_walk : ∀ {t : Tm} {p : List Nat}, lcT t → lcT (walkM t p)
 | t, [], h => h
 | t, i :: p, h => by
  simp only [walkM]
  split
  ·rename_i x hx; exact lc_walk (lc_kid h hx)
  ·exact h
theorem lcK_set : ∀ {ks : List Tm} {j : Nat} {x : Tm}, lcK ks → lcT x → lcK (ks.set j x)
 | [], _, _, _, _ => trivial
 | t :: ts, 0, x, h, hx => ⟨hx, h.2⟩
 | t :: ts, j + 1, x, h, hx => ⟨h.1, lcK_set h.2 hx⟩
theorem lc_set {t x : Tm} {j : Nat} (h : lcT t) (hx : lcT x) : lcT (setKid t j x) := by
 obtain ⟨k, n, r, ks, cs⟩ := t
 exact ⟨h.1, lcK_set h.2.1 hx, h.2.2⟩
theorem lc_fill {t : Tm} {p : List Nat} (hok : okP t p) (ht : lcT t) (lo : Nat) : ∀ (hi : Nat) (x : Tm), hi ≤ p.length → lcT x → lcT (fillM (wayM t p) p lo hi x)
 | 0, x, _, h => h
 | n + 1, x, hn, h => by
  simp only [fillM]
  split
  ·exact h
  ·rw [way_get hok (by omega), List.getElem?_eq_getElem (show n < p.length by omega)]
   exact lc_fill hok ht lo n _ (by omega) (lc_set (lc_walk ht) h)
mutual
theorem lc_fits : ∀ (p : Pat) (v : Tm), lcT v → ∀ x ∈ (fitsM p v).1, lcT x
 | .mk k n r ks, v, h, x, hx => by
  simp only [fitsM] at hx
  split at hx
  ·simp at hx; rw [hx]; exact h
  ·split at hx
   ·simp at hx
   ·split at hx
    ·split at hx
     ·simp at hx
     ·obtain ⟨k', n', r', ks', cs'⟩ := v
      exact lc_fitsL ks ks' h.2.1 x hx
    ·simp at hx
theorem lc_fitsL : ∀ (ps : List Pat) (vs : List Tm), lcK vs → ∀ x ∈ (fitsL ps vs).1, lcT x
 | [], vs, _, x, hx => by simp [fitsL] at hx
 | _ :: _, [], _, x, hx => by simp [fitsL] at hx
 | p :: ps, v :: vs, h, x, hx => by
  simp only [fitsL, fitAdd] at hx
  split at hx
  ·rcases List.mem_append.1 hx with h' | h'
   ·exact lc_fits p v h.1 x h'
   ·exact lc_fitsL ps vs h.2 x h'
  ·simp at hx
end
theorem lc_match : ∀ (cs : List Cs) (v : Tm), lcC cs → lcT v → lcT (matchM cs v)
 | [], v, _, _ => lc_none
 | .mk q b :: cs, v, h, hv => by
  simp only [matchM]
  split
  ·exact lc_put _ (lc_fits q v hv) b 0 h.1
  ·exact lc_match cs v h.2 hv
theorem lc_bod {s : List Int} {y : Tm} : ∀ {ts : List KT}, (∀ x ∈ ts, lcT x.2) → bodM s ts = some y → lcT y
 | [], _, h => by cases h
 | x :: ts, h, hy => by
  simp only [bodM] at hy
  split at hy
  ·simp at hy; rw [← hy]; exact h x (by simp)
  ·exact lc_bod (fun z hz => h z (by simp [hz])) hy
theorem does_lc {ts : List KT} (hb : ∀ x ∈ ts, lcT x.2) {t0 : Tm} {p : List Nat} (hs : lcT t0) (hok : okP t0 p) (k : Int) : lcT (doesM ts t0 p k) := by
 have hw := lc_walk (p := p) hs
 have here : ∀ y, lcT y → lcT (hereM t0 p y) := fun y hy => lc_fill hok hs 0 _ _ (Nat.le_refl _) hy
 have hput : ∀ x y, lcT x → lcT y → lcT (putM [x] 0 y) := fun x y hx hy => lc_put _ (fun v hv => by simp at hv; rw [hv]; exact hx) _ _ hy
 have hlet : lcT (letM (walkM t0 p)) := by
  unfold letM
  split
  ·rename_i x b h1 h2; exact hput _ _ (lc_kid hw h1) (lc_kid hw h2)
  ·exact lc_none
 unfold doesM
 split
 ·refine here _ ?_
  unfold appM
  split
  ·rename_i f x h1 h2
   split
   ·rename_i b h3; exact hput _ _ (lc_kid hw h2) (lc_kid (lc_kid hw h1) h3)
   ·exact lc_none
  ·exact lc_none
 split
 ·exact here _ hlet
 split
 ·refine here _ ?_
  cases hy : bodM (walkM t0 p).ref ts with
  | none => exact lc_none
  | some y => exact lc_bod hb hy
 split
 ·refine here _ ?_
  unfold priM
  split
  ·exact lc_prim _ _ _
  ·exact lc_none
 split
 ·refine here _ ?_
  unfold matM
  split
  ·rename_i v hv
   have hv' := lc_kid hw hv
   generalize walkM t0 p = w at hw
   obtain ⟨k, n, r, ks, cs⟩ := w
   exact lc_match _ _ hw.2.2 hv'
  ·exact lc_none
 split
 ·unfold doM
  split
  ·rename_i a b h1 h2
   have hlt := hand_lt (wayM t0 p) (walkM t0 p).ref p.length
   refine lc_fill hok hs 0 _ _ (by omega) (lc_put _ (fun v hv => ?_) _ _ (lc_kid (lc_walk hs) h2))
   simp at hv
   rcases hv with rfl | rfl
   ·exact lc_kid hw h1
   ·refine ⟨by simp [locM, clashM, offM], ⟨lc_fill hok hs _ _ _ (Nat.le_refl _) lc_var, trivial⟩, trivial⟩
  ·exact lc_none
 ·exact here _ hlet
theorem check_lc {t : Tm} {d m : Int} (h : checkM t d m = 0) : lcT t := by
 unfold checkM at h
 split at h
 ·cases h
 ·exact aerr_lc h
structure Rt (t : Tm) : Prop where
 gd : gdT 0 t
 lc : lcT t
theorem check_rt {t : Tm} (h : checkM t 0 0 = 0) (hr : rgT t) : Rt t := ⟨check_gd h hr, check_lc h⟩
theorem Rt.check {t : Tm} (h : Rt t) (d m : Int) : checkM t d m = if (longT 300 60 1 0 t).1 then 11 else 0 := by
 unfold checkM
 rw [gd_aerr h.gd h.lc]
theorem does_rt {ts : List KT} (hb : ∀ x ∈ ts, Rt x.2) {t : Tm} (h : Rt t) (hN : tsize t < 2^28) {k : Int} (hk : kindM ts t (placeM t) = k) (hk7 : k ≤ 7) : Rt (doesM ts t (placeM t) k) :=
 ⟨does_gd h.gd (place_ok (gd_sh h.gd)) (freeP_place t) hN (fun x hx => (hb x hx).gd) hk hk7, does_lc (fun x hx => (hb x hx).lc) h.lc (place_ok (gd_sh h.gd)) k⟩
end Go.Proofs.YtkcgkignhpepkaaGreatDoor

/- The reference: a step, and some steps. -/
namespace Go.Proofs.YtkcgkignhpepkaaGreatDoor
open Go Hs
variable {G : List (Nat × TypeId × Pu)}
abbrev stepV (m : Nat) (x : Tm × Int) : PV := .tup [.pu (tmc m x.1), iv .i64 x.2]
def rstepM (ts : List KT) (t : Tm) : Tm × Int :=
 if valM t = true then (noneM, 6) else if 7 < kindM ts t (placeM t) then (noneM, 10) else if (longT 300 60 1 0 (nextM ts t)).1 = true then (noneM, 11) else (nextM ts t, 0)
end Go.Proofs.YtkcgkignhpepkaaGreatDoor

/- step.Step and step.Trace. -/
namespace Go.Proofs.YtkcgkignhpepkaaGreatDoor
open Go Hs
variable {G : List (Nat × TypeId × Pu)}
def stepM (ts : List KT) (t : Tm) : Tm × Int :=
 if stepCheckM ts t = 0 then (if valM t = true then (noneM, 6) else if 7 < kindM ts t (placeM t) then (noneM, 10) else if checkM (nextM ts t) 60 8 = 0 then (nextM ts t, 0) else (noneM, 11)) else (noneM, stepCheckM ts t)
theorem ru_labs (a b : Pu) (ts : List KT) : heapLabs (ruO a b ts) = heapLabs (ruO a b []) := by
 have h : (Ob.map 28 32 (mapE (bodL ts))).labs = [] := NoLab.ok
 have h0 : (Ob.map 28 32 (mapE (bodL []))).labs = [] := NoLab.ok
 simp only [ruO, heapLabs, h, h0]
 rfl
set_option maxHeartbeats 4000000 in
theorem step_c (a b : Pu) (ts : List KT) (t : Tm) (hts : ∀ x ∈ ts, tsize x.2 < 2^40) (hN : tsize t < 2^40) : FCallN Tryz.prog G 46 [.pu (wdP a b ts), .pu (tmc 0 t)] (fun m => stepV m (stepM ts t)) := by
 refine FCallN.of_tri tbl 45 Tryz.func46 rfl rfl (fun _ => rfl) fun w0 M ρ0 D0 hM => ?_
 refine Tri.fact (i := 0) rfl (fun D w x h => wd_wf h) (fun hwd => ?_);refine yR ?_;refine s_box SS 2 ?_;refine s_box SS 3 ?_;refine s_alloc SS 4 ?_;refine yB ?_;refine e_seqN [2, 3, 4] ?_;refine Y36 ?_;refine s_val (v_callD (fun _ => stepCheck_c a b ts t hts hN)) ?_;refine Y14 ?_;refine Y61 ?_;refine Tri.cond rfl (fun h0 => ?_) (fun h0 => ?_)
 ·skip
  have h0' : ¬ stepCheckM ts t = 0 := by simpa using h0
  have hfin : stepM ts t = (noneM, stepCheckM ts t) := by rw [stepM, if_neg h0']
  refine Y58 ?_;refine yM ?_;refine yS ?_;refine Y2 ?_;exact Tri.ret ⟨.inr rfl, ret2 rfl resV_cell ((by rw [hfin]; exact ToPu.imp (by unfold noneM; repeat constructor))) resV_tmp ((by rw [hfin]; exact VImp.refl _))⟩
 ·skip
  have h0' : stepCheckM ts t = 0 := by simpa using h0
  obtain ⟨k1, k2, k3, k4⟩ := stepCheck_ok h0'
  obtain ⟨k5, k6⟩ := check_sh k4
  refine Tri.skip ?_;refine Y4 ?_;refine s_val (v_callD (fun _ => value_c _ t (Nat.le_refl _) (by omega))) ?_;refine Y0 ?_;refine Tri.cond rfl (fun h1 => ?_) (fun h1 => ?_)
  ·skip
   have hfin : stepM ts t = (noneM, 6) := by rw [stepM, if_pos h0', if_pos h1]
   refine Y58 ?_;refine Y59 ?_;exact Tri.ret ⟨.inr rfl, ret2 rfl resV_cell ((by rw [hfin]; exact ToPu.imp (by unfold noneM; repeat constructor))) resV_tmp ((by rw [hfin]; exact VImp.refl _))⟩
  ·skip
   have hok := place_ok k5
   have hN' : tsize t < 2^28 := by omega
   have hwsh := sh_walk (p := placeM t) k5
   have hkc := kind_c (G := G) a b ts hwd t (placeM t) hok hN' (by generalize walkM t (placeM t) = w at hwsh; obtain ⟨k, n, r, ks, cs⟩ := w; exact hwsh.1) (by generalize walkM t (placeM t) = w at hwsh; obtain ⟨k, n, r, ks, cs⟩ := w; exact hwsh.2.1)
   have hk19 := (kind_inv (show kindW ts (wayM t (placeM t)) (placeM t).length (walkM t (placeM t)) = kindM ts t (placeM t) from rfl)).2.2.2.2.2.2.2.1
   have hst : stepM ts t = if 7 < kindM ts t (placeM t) then (noneM, 10) else if checkM (nextM ts t) 60 8 = 0 then (nextM ts t, 0) else (noneM, 11) := by rw [stepM, if_pos h0', if_neg (by rw [h1]; decide)]
   generalize hkk : kindM ts t (placeM t) = kk at hkc hk19 hst
   refine Tri.skip ?_;refine Y4 ?_;refine s_call (opened_c a b ts k3 (by omega)) ?_;refine yL ?_;refine s_val (v_callD (fun _ => found_c t k5 (by omega))) ?_;refine s_alloc SS 8 ?_;refine yA ?_;refine yS ?_;refine e_drawN [822, 820, 823, 831, 832, 833, 834, 835, 836, 8] ?_ (h1 := by rw [ru_labs]; kernel_rfl) (h2 := by rw [ru_labs]; kernel_rfl);refine Y32 ?_;refine s_val (v_callO (fun _ => hkc)) ?_;refine Y14 ?_;refine Y61 ?_;refine Tri.cond rfl (fun h2 => ?_) (fun h2 => ?_)
   ·skip
    rw [if_pos (by simpa using h2)] at hst
    refine Y58 ?_;refine Y59 ?_;exact Tri.ret ⟨.inr rfl, ret2 rfl resV_cell ((by rw [hst]; exact ToPu.imp (by unfold noneM; repeat constructor))) resV_tmp ((by rw [hst]; exact VImp.refl _))⟩
   ·skip
    have hk7 : kk ≤ 7 := by simpa using h2
    rw [if_neg (by omega)] at hst
    have hnx : nextM ts t = doesM ts t (placeM t) kk := by unfold nextM; rw [hkk]
    have hyz := does_sz (fun x hx => (check_sh (k2 x hx)).2) hok (show tsize t ≤ 3000 by omega) kk
    rw [← hnx] at hyz
    obtain rfl | rfl | rfl | rfl | rfl | rfl | rfl : kk = 1 ∨ kk = 2 ∨ kk = 3 ∨ kk = 4 ∨ kk = 5 ∨ kk = 6 ∨ kk = 7 := by omega
    all_goals
     refine Tri.skip ?_;refine Y29 ?_;refine Y50 ?_;refine s_val (v_ixo SS) ?_;refine yL ?_;refine yL ?_
     first | refine s_val (v_callO (fun _ => does1_c k5 hok hN' hkk)) ?_ | refine s_val (v_callO (fun _ => does2_c k5 hok hN' hkk)) ?_ | refine s_val (v_callO (fun _ => does3_c a b hwd hok hN' hkk)) ?_ | refine s_val (v_callO (fun _ => does4_c k5 hok hN' hkk)) ?_ | refine s_val (v_callO (fun _ => does5_c k5 hok hN' hkk)) ?_ | refine s_val (v_callO (fun _ => does6_c k5 hok hN' hkk)) ?_ | refine s_val (v_callO (fun _ => does7_c k5 hok hN' hkk)) ?_
     refine s_alloc SS 10 ?_;refine yS ?_;refine e_drawN [10] ?_;rw [← hnx];refine Y4 ?_;refine s_val (v_callD (fun _ => right_c (nextM ts t) (by omega))) ?_;refine yQ ?_;refine Y0 ?_;refine Tri.cond rfl (fun h3 => ?_) (fun h3 => ?_)
     ·skip
      rw [if_neg (by simpa using h3)] at hst
      refine Y58 ?_;refine Y59 ?_;exact Tri.ret ⟨.inr rfl, ret2 rfl resV_cell ((by rw [hst]; exact ToPu.imp (by unfold noneM; repeat constructor))) resV_tmp ((by rw [hst]; exact VImp.refl _))⟩
     ·skip
      rw [if_pos (by simpa using h3)] at hst
      refine Tri.skip ?_;refine Y4 ?_;refine s_val (v_callN (fun m n h => (tmc_low h _).imp) (fun _ => own_c (nextM ts t) (by omega))) ?_;refine Y59 ?_;exact Tri.ret ⟨.inr rfl, ret2 rfl resV_cell ((by rw [hst]; exact VImp.refl _)) resV_tmp ((by rw [hst]; exact VImp.refl _))⟩
end Go.Proofs.YtkcgkignhpepkaaGreatDoor

/- Steps as specified: the reference's are the program's. -/
namespace Go.Proofs.YtkcgkignhpepkaaGreatDoor
open Go Hs
theorem stepCheck_parts {ts : List KT} {t : Tm} (h : stepCheckM ts t = 0) (x : Tm) : stepCheckM ts x = checkM x 0 0 := by
 unfold stepCheckM at h ⊢
 split at h
 ·cases h
 ·rename_i h1
  rw [if_neg h1]
  obtain ⟨h2, h3⟩ := orE_zero h
  split at h3
  ·cases h3
  ·rename_i h4
   rw [h2, if_neg h4]; rfl
theorem rt_step {ts : List KT} (hb : ∀ x ∈ ts, Rt x.2) {t : Tm} (h : Rt t) (hN : tsize t < 2^28) (hk7 : ¬ 7 < kindM ts t (placeM t)) : Rt (nextM ts t) := by
 unfold nextM
 exact does_rt hb h hN rfl (by omega)
theorem step_eq {ts : List KT} (hb : ∀ x ∈ ts, Rt x.2) {t : Tm} (hc : stepCheckM ts t = 0) (h : Rt t) : stepM ts t = rstepM ts t ∧ ((rstepM ts t).2 = 0 → (rstepM ts t).1 = nextM ts t ∧ Rt (nextM ts t) ∧ stepCheckM ts (nextM ts t) = 0) := by
 have hz := (check_sh (stepCheck_ok hc).2.2.2).2
 unfold stepM rstepM
 rw [if_pos hc]
 split
 ·exact ⟨rfl, fun h => by cases h⟩
 ·split
  ·exact ⟨rfl, fun h => by cases h⟩
  ·rename_i h7
   have hn := rt_step hb h (by omega) h7
   rw [hn.check 60 8]
   cases hl : (longT 300 60 1 0 (nextM ts t)).1
   ·refine ⟨by simp, fun _ => ⟨by simp, hn, ?_⟩⟩
    rw [stepCheck_parts hc, hn.check, hl]; rfl
   ·exact ⟨by simp, fun h => by simp at h⟩
end Go.Proofs.YtkcgkignhpepkaaGreatDoor

/- Terms that are the same: the chapter's and the reference's. -/
namespace Go.Proofs.YtkcgkignhpepkaaGreatDoor
open Go Hs
variable {G : List (Nat × TypeId × Pu)}
end Go.Proofs.YtkcgkignhpepkaaGreatDoor

/- What is seen of a value. -/
namespace Go.Proofs.YtkcgkignhpepkaaGreatDoor
open Go Hs
variable {G : List (Nat × TypeId × Pu)}
end Go.Proofs.YtkcgkignhpepkaaGreatDoor

/- Ends of runs, and what is seen of them. -/
namespace Go.Proofs.YtkcgkignhpepkaaGreatDoor
open Go Hs
variable {G : List (Nat × TypeId × Pu)}
theorem kind19 {ts : List KT} {t : Tm} : 1 ≤ kindM ts t (placeM t) ∧ kindM ts t (placeM t) ≤ 9 := (kind_inv (show kindW ts (wayM t (placeM t)) (placeM t).length (walkM t (placeM t)) = kindM ts t (placeM t) from rfl)).2.2.2.2.2.2.2.1
abbrev sameV (x : Bool × Int) : PV := .tup [bv x.1, iv .i64 x.2]
end Go.Proofs.YtkcgkignhpepkaaGreatDoor

/- The reference: runs, and whether they end alike. -/
namespace Go.Proofs.YtkcgkignhpepkaaGreatDoor
open Go Hs
variable {G : List (Nat × TypeId × Pu)}
end Go.Proofs.YtkcgkignhpepkaaGreatDoor

/- Runs with memory of their own; ends that are compared, and spoilt. -/
namespace Go.Proofs.YtkcgkignhpepkaaGreatDoor
open Go Hs
variable {G : List (Nat × TypeId × Pu)}
end Go.Proofs.YtkcgkignhpepkaaGreatDoor

/- Ends that are compared, and spoilt: by the cells. -/
namespace Go.Proofs.YtkcgkignhpepkaaGreatDoor
open Go Hs
end Go.Proofs.YtkcgkignhpepkaaGreatDoor

/- StepRuns: the walk. -/
namespace Go.Proofs.YtkcgkignhpepkaaGreatDoor
open Go Hs
end Go.Proofs.YtkcgkignhpepkaaGreatDoor

/- Terms, patterns and worlds out of what arguments read as. -/
namespace Go.Proofs.YtkcgkignhpepkaaGreatDoor
open Go Hs
variable {H : Type}
theorem c_u8 : Tryz.prog.underlying 5 = some (.int .u8) := by kernel_rfl
end Go.Proofs.YtkcgkignhpepkaaGreatDoor

/- From a row's condition to a contract: what is alike for all laws. -/
namespace Go.Proofs.YtkcgkignhpepkaaGreatDoor
open Go Hs
open Go.ChangeShapes Go.WideShapes Go.ChangeAt Go.RowKit
def TabsL (l : List (Nat × Int)) (W : World) : Prop := ∀ g n, (g, n) ∈ l → ∀ j u, ((sumR n).map fun z => Value.int .u8 z)[j]? = some u → W.cell? ⟨g, j, none⟩ = some u
theorem tab_one {W : World} {name : String} {n : Int} {g : Nat} {l : List (String × DataW Unit)} (h : laidMetH Tryz.prog l W)
  (hl : l.filter (fun x => x.1 == name) = [(name, Lib.tabData .u8 (sumR n))]) (hg : Tryz.prog.globalNamed name = some g) (hty : (Tryz.prog.globals[g]?).map (·.type) = some 28) :
  ∀ j u, ((sumR n).map fun z => Value.int .u8 z)[j]? = some u → W.cell? ⟨g, j, none⟩ = some u := by
 have h1 := h.filter (fun x => x.1 == name)
 rw [hl] at h1
 have h2 : laidMet Tryz.prog [(name, Lib.tabData .u8 (sumR n))] W := by
  have := (laidMetH_iff.1 h1).1
  simpa [Lib.tabData, DataW.handleName?] using this
 have h3 := Lib.tabIs_of_head (t := 28) (e := 5) (n := 32) hg hty (by kernel_rfl) (by kernel_rfl) (by kernel_rfl) (by kernel_rfl) h2
 intro j u hj
 have := World.var?_cell hg h3 j
 rw [this, List.getElem?_toArray];exact hj
theorem tyU8 {z : Int} : tyP Tryz.prog 5 (.leaf (.int .u8 z)) = true := (by kernel_rfl : (comps Tryz.prog 5).isNone = true)
theorem tySum {r : List Int} : tyV Tryz.prog 28 (.pu (refP r)) = true := (by kernel_rfl : ((comps Tryz.prog 28).isSome && Tryz.prog.underlyingId 28 == Tryz.prog.underlyingId 28) = true)
theorem lenSum {n : Int} : ((sumR n).map fun z => Value.int .u8 z).length = Tryz.prog.cellsOf 28 := (by simp [sumR] : ((sumR n).map fun z => Value.int .u8 z).length = 32).trans (by kernel_rfl)
def bytL (l : List Int) : List Pu := l.map fun x => .leaf (.int .u8 x)
theorem prs_ints {D : Nat → Nat → Prop} {w : World} (zs : List Int) : PRs Tryz.prog D w (List.replicate zs.length (1, 5)) (bytL zs) (zs.map fun z => Value.int .u8 z) := by
 induction zs with
 | nil => exact .nil
 | cons z zs ih => exact PRs.cons (x := [.int .u8 z]) (.leaf rfl) rfl tyU8 ih
def cfg0 (W : World) : Cfg := { D := fun b _ => b < W.heap.size, ρ := fun _ => none, own := fun _ => none }
def gOf (l : List (Nat × Int)) : List (Nat × TypeId × Pu) := l.map fun x => (x.1, 28, refP (sumR x.2))
theorem gOf_get {l : List (Nat × Int)} {g : Nat} {T : TypeId} {p : Pu} (h : get (gOf l) g = some (T, p)) : ∃ n, (g, n) ∈ l ∧ T = 28 ∧ p = refP (sumR n) := by
 induction l with
 | nil => cases h
 | cons x l ih =>
  obtain ⟨i, n⟩ := x
  simp only [gOf, List.map_cons, get_cons] at h
  split at h
  ·rename_i e; subst e; cases h; exact ⟨n, by simp, rfl, rfl⟩
  ·obtain ⟨m, h1, h2⟩ := ih h
   exact ⟨m, by simp [h1], h2⟩
theorem gl_of {l : List (Nat × Int)} {W : World} (h : TabsL l W) : GL Tryz.prog (gOf l) (cfg0 W) W := by
 intro g T p hg
 obtain ⟨n, hm, rfl, rfl⟩ := gOf_get hg
 have hT := h g n hm
 refine VR.pp (x := (sumR n).map fun z => Value.int .u8 z) (.pu (PR.agg (cs := List.replicate 32 (1, 5)) (by kernel_rfl) (prs_ints (sumR n)))) tySum lenSum fun j u hj => ⟨by rw [Nat.zero_add]; exact hT j u hj, ?_⟩
 ·have := hT j u hj
  show g < W.heap.size
  refine Nat.lt_of_not_le fun hb => ?_
  simp only [World.cell?, Array.getElem?_eq_none hb] at this
  cases this
theorem frag_of {l : List (Nat × Int)} {W : World} (h : TabsL l W) : Frag Tryz.prog (gOf l) (cfg0 W) W [] [] where
 heap := fun l ob h => by cases h
 inj := fun l l' b R R' ob ob' h => by cases h
 dObj := fun l ob b R o h => by cases h
 dLt := fun b o h => h
 own := fun b q k h => by cases h
 gl := gl_of h
theorem call_of {l : List (Nat × Int)} {W : World} (hT : TabsL l W) {f : FuncId} {args : List PV} {xs : Array Value} (hc : FCall Tryz.prog (gOf l) f args (bv true)) (hx : VFs Tryz.prog (cfg0 W) W args xs.toList) :
  Calls Tryz.prog f xs W fun e W' => e = .returned (.bool true) ∧ Below W.heap.size W W' := by
 refine (hc (cfg0 W) W _ (frag_of hT) hx).mono fun e W' ⟨y, C', he, A⟩ => ?_
 subst he
 have hM : ∀ b, ¬ Mset (cfg0 W) [] b := fun b hb => by
  rcases hb with ⟨l, ob, R, h1, _⟩ | ⟨l, p, k, ob, h1, _⟩ <;> cases h1
 refine ⟨?_, ⟨A.os, A.tape, A.output, A.size, fun b hb => A.block b hb (hM b)⟩⟩
 cases A.val with
 | one h hs =>
  have h1 := h.pu_inv
  generalize hc : y.cells.toList = c at h1
  cases h1
  cases y <;> simp_all [Value.cells, valAgg, PV.isAgg]
theorem and_t {a b : Bool} (h1 : a = true) (h2 : b = true) : (a && b) = true := by rw [h1, h2]; rfl
theorem laidOutD : laidOutB Tryz.prog = true := by kernel_rfl
theorem undB : Tryz.prog.underlying 4 = some .bool := by kernel_rfl
section
variable {H : Type} {enc : TypeId × Value → H} {W : World}
end
end Go.Proofs.YtkcgkignhpepkaaGreatDoor

/- Copies of slices, and types. -/
namespace Go.Proofs.YtkcgkignhpepkaaGreatDoor
open Go Hs
variable {G : List (Nat × TypeId × Pu)}
theorem cloneB_c (ps : List Pu) (hlen : ps.length < 1000000000) : OCall Tryz.prog G 110 [.pu (.sl 0 5 ps)] 0 5 ps := by
 refine OCall.of_tri 8 2 Tryz.func110 rfl rfl rfl fun w0 M ρ0 D0 => ?_
 refine Y8 ?_;refine Tri.nilEq rfl (fun b hb => ?_);refine tQ ?_;refine Tri.cond rfl (fun h => ?_) (fun h => ?_)
 ·skip
  refine Y20 ?_;exact Tri.ret ⟨.inr rfl, .inr ⟨rfl, hb h⟩⟩
 ·refine Tri.skip ?_
  refine yR ?_;refine yZ ?_;refine yM ?_;refine s_app0 ?_ ?_
  ·simp; omega
  refine Y14 ?_;exact Tri.ret ⟨.inr rfl, .inl rfl⟩
theorem cloneT_c (ps : List Pu) (hlen : ps.length < 1000000000) : OCall Tryz.prog G 225 [.pu (.sl 0 58 ps)] 0 58 ps := by
 refine OCall.of_tri 8 2 Tryz.func225 rfl rfl rfl fun w0 M ρ0 D0 => ?_
 refine Y8 ?_;refine Tri.nilEq rfl (fun b hb => ?_);refine tQ ?_;refine Tri.cond rfl (fun h => ?_) (fun h => ?_)
 ·skip
  refine Y20 ?_;exact Tri.ret ⟨.inr rfl, .inr ⟨rfl, hb h⟩⟩
 ·refine Tri.skip ?_
  refine yR ?_;refine yZ ?_;refine yM ?_;refine s_app0 ?_ ?_
  ·simp; omega
  refine Y14 ?_;exact Tri.ret ⟨.inr rfl, .inl rfl⟩
theorem cloneS_c (ps : List Pu) (hlen : ps.length < 1000000000) : OCall Tryz.prog G 211 [.pu (.sl 0 28 ps)] 0 28 ps := by
 refine OCall.of_tri 8 2 Tryz.func211 rfl rfl rfl fun w0 M ρ0 D0 => ?_
 refine Y8 ?_;refine Tri.nilEq rfl (fun b hb => ?_);refine tQ ?_;refine Tri.cond rfl (fun h => ?_) (fun h => ?_)
 ·skip
  refine Y20 ?_;exact Tri.ret ⟨.inr rfl, .inr ⟨rfl, hb h⟩⟩
 ·refine Tri.skip ?_
  refine yR ?_;refine yZ ?_;refine yM ?_;refine s_app0 ?_ ?_
  ·simp; omega
  refine Y14 ?_;exact Tri.ret ⟨.inr rfl, .inl rfl⟩
inductive Ty where
 | mk (kind num : Int) (ref : List Int) (kids : List Ty)
mutual
def tyc : Ty → Pu
 | .mk k n r ks => typT k n r (tysc ks)
def tysc : List Ty → List Pu
 | [] => []
 | t :: ts => tyc t :: tysc ts
end
theorem tys_eq : ∀ ks, tysc ks = ks.map tyc
 | [] => rfl
 | p :: ps => by simp [tysc, tys_eq ps]
theorem tys_length (ks : List Ty) : (tysc ks).length = ks.length := by simp [tys_eq]
theorem tys_get {ks : List Ty} {i : Nat} (h : i < ks.length) : (tysc ks)[i]? = some (tyc ks[i]) := by simp [tys_eq, h]
theorem tys_append (a b : List Ty) : tysc (a ++ b) = tysc a ++ tysc b := by simp [tys_eq]
instance (t : Ty) : TyV Tryz.prog 58 (.pu (tyc t)) := by cases t; exact inferInstanceAs (TyV Tryz.prog 58 (.pu (.agg _ _)))
theorem bound_c (l m : List Ty) (hl : l.length < 1000000) (hm : m.length < 1000000) : FCall Tryz.prog G 175 [.pu (.sl 0 58 (tysc l)), .pu (.sl 0 58 (tysc m))] (.pu (.sl 0 58 (tysc (l ++ m)))) := by
 have h1 := tys_length l
 have h2 := tys_length m
 refine FCall.of_tri tbl 9 Tryz.func175 rfl rfl rfl fun w0 M ρ0 D0 => ?_
 rw [tys_append];refine Y20 ?_;refine Y1 ?_;refine s_callO (cloneT_c (tysc l) (by omega)) ?_;refine yM ?_;refine s_appS ?_ ?_
 ·simp [tys_length]; omega
 refine Y2 ?_;exact Tri.ret ⟨.inr rfl, ret1 rfl resV_tmp (VImp.refl _)⟩
end Go.Proofs.YtkcgkignhpepkaaGreatDoor

/- The store of numbers. -/
namespace Go.Proofs.YtkcgkignhpepkaaGreatDoor
open Go Hs
variable {G : List (Nat × TypeId × Pu)}
structure Sd where
 a : Int
 d : Int
def byP (bs : List Int) : List Pu := bs.map fun b => .leaf (.int .u8 b)
theorem by_len (bs : List Int) : (byP bs).length = bs.length := by simp [byP]
def stP (bs : List Int) (s : Sd) : Pu := .agg 171 [.sl 0 5 (byP bs), .leaf (.int .i64 s.a), .leaf (.int .u64 s.d)]
abbrev stO (bs : List Int) (s : Sd) : List (Nat × Ob) := [(950, .var 171 (.pu (stP bs s)))]
def mixM (bs : List Int) (s : Sd) : Sd :=
 if 0 < bs.length then ⟨s.a + 1, IntKind.u64.wrap (BitVec.ofInt IntKind.u64.bits s.d ^^^ BitVec.ofInt IntKind.u64.bits (IntKind.u64.wrap (bs.getD (s.a.tmod bs.length).toNat 0))).toNat⟩ else s
def nextD (d : Int) : Int := IntKind.u64.wrap (IntKind.u64.wrap (d * 6364136223846793005) + 1442695040888963407)
def drawM (bs : List Int) (s : Sd) : Int × Sd := (IntKind.i64.wrap ((nextD (mixM bs s).d).fdiv (2 ^ 40)), ⟨(mixM bs s).a, nextD (mixM bs s).d⟩)
theorem wrapU (n : Int) : 0 ≤ IntKind.u64.wrap n ∧ IntKind.u64.wrap n < 18446744073709551616 := by
 have : IntKind.u64.wrap n = n % 18446744073709551616 := by simp [IntKind.wrap, IntKind.bits, IntKind.signed]
 omega
theorem draw_b (bs : List Int) (s : Sd) : 0 ≤ (drawM bs s).1 ∧ (drawM bs s).1 < 16777216 := by
 have h := wrapU (IntKind.u64.wrap ((mixM bs s).d * 6364136223846793005) + 1442695040888963407)
 have e : (nextD (mixM bs s).d).fdiv (2 ^ 40) = nextD (mixM bs s).d / 1099511627776 := by
  rw [Int.fdiv_eq_ediv_of_nonneg _ (by decide)]; rfl
 simp only [drawM]
 rw [e]
 unfold nextD
 rw [wrap64 (by omega) (by omega)]
 omega
theorem conv_bu (n : Int) : convV Tryz.prog 5 169 (iv .u8 n) = some (iv .u64 (IntKind.u64.wrap n)) := by
 have hu : Tryz.prog.underlying 5 = some (.int .u8) := by kernel_rfl
 have hi : Tryz.prog.underlying 169 = some (.int .u64) := by kernel_rfl
 unfold convV iv
 simp only [hu, hi]
theorem shr40 (T : TypeId) (n : Int) : binV Tryz.prog .shr T (iv .u64 n) (iv .u64 40) = some (iv .u64 (n.fdiv (2 ^ 40))) := by
 simp [binV, iv, IntKind.bits]
theorem conv_ui (n : Int) : convV Tryz.prog 169 3 (iv .u64 n) = some (iv .i64 (IntKind.i64.wrap n)) := by
 have hu : Tryz.prog.underlying 169 = some (.int .u64) := by kernel_rfl
 have hi : Tryz.prog.underlying 3 = some (.int .i64) := by kernel_rfl
 unfold convV iv
 simp only [hu, hi]
theorem conv_ib (n : Int) : convV Tryz.prog 3 5 (iv .i64 n) = some (iv .u8 (IntKind.u8.wrap n)) := by
 have hu : Tryz.prog.underlying 3 = some (.int .i64) := by kernel_rfl
 have hi : Tryz.prog.underlying 5 = some (.int .u8) := by kernel_rfl
 unfold convV iv
 simp only [hu, hi]
theorem draw_c (bs : List Int) (s : Sd) (h0 : 0 ≤ s.a) (h1 : s.a < 4611686018427387904) (hl : bs.length < 1000000) : HCall Tryz.prog G 140 [.ptr 950 [] 171] [] (stO bs s) (iv .i64 (drawM bs s).1) (stO bs (drawM bs s).2) [] := by
 have hbl := by_len bs
 refine HCall.of_triD tbl 55 [950] Tryz.func140 rfl rfl rfl fun w0 M ρ0 D0 => ?_
 by_cases hb : 0 < bs.length
 ·obtain ⟨j, hj⟩ : ∃ j : Nat, s.a.tmod (byP bs).length = (j : Int) := ⟨(s.a.tmod (byP bs).length).toNat, by
   rw [Int.tmod_eq_emod_of_nonneg h0]
   have := Int.emod_nonneg s.a (b := ((byP bs).length : Int)) (by omega)
   omega⟩
  have hjl : j < bs.length := by
   rw [Int.tmod_eq_emod_of_nonneg h0] at hj
   have := Int.emod_lt_of_pos s.a (b := ((byP bs).length : Int)) (by omega)
   omega
  have hm : mixM bs s = ⟨IntKind.i64.wrap (s.a + 1), IntKind.u64.wrap (BitVec.ofInt IntKind.u64.bits s.d ^^^ BitVec.ofInt IntKind.u64.bits (IntKind.u64.wrap (bs[j]'hjl))).toNat⟩ := by
   unfold mixM
   rw [if_pos hb, wrap64 (by omega) (by omega), ← hbl, hj]
   simp [hjl]
  have hp : (byP bs)[(j : Int).toNat]? = some (.leaf (.int .u8 (bs[j]'hjl))) := by simp [byP, hjl]
  have e : drawM bs s = (IntKind.i64.wrap ((nextD (mixM bs s).d).fdiv (2 ^ 40)), ⟨(mixM bs s).a, nextD (mixM bs s).d⟩) := rfl
  rw [e, hm]
  simp only [nextD]
  refine Y20 ?_;refine Y1 ?_;refine yY ?_;refine Y55 ?_;refine Y45 ?_;refine Tri.cond rfl (fun hc => ?_) (fun hc => ?_)
  ·skip
   refine Y47 ?_;refine yM ?_;refine yY ?_;refine Y9 ?_;refine yM ?_;refine Y13 ?_;refine yM ?_;refine yY ?_;refine Y55 ?_;refine s_val (v_int SS (u := iv .i64 (j : Int)) (h := by rw [← hj]; simp only [intBin]; rw [if_neg (by omega)])) ?_;refine s_val (v_index SS (h0 := by omega) (hp := hp)) ?_;refine yL ?_;refine s_val (v_conv SS (hu := conv_bu _)) ?_;refine yI ?_;refine Y50 ?_;refine yS ?_;refine e_draw ?_;refine Y47 ?_;refine yI ?_;refine Y50 ?_;refine Y17 ?_;refine Y29 ?_;refine Y13 ?_;refine yI ?_;refine yI ?_;refine Y50 ?_;refine Y17 ?_;refine Y47 ?_;refine s_val (v_bin SS (h := shr40 _ _)) ?_
   refine s_val (v_conv SS (hu := conv_ui _)) ?_;refine Y2 ?_;exact Tri.ret ⟨.inr rfl, ret1 rfl resV_tmp (VImp.refl _), zO⟩
  ·exfalso
   have := of_decide_eq_false hc
   omega
 ·have hm : mixM bs s = s := if_neg hb
  have e : drawM bs s = (IntKind.i64.wrap ((nextD (mixM bs s).d).fdiv (2 ^ 40)), ⟨(mixM bs s).a, nextD (mixM bs s).d⟩) := rfl
  rw [e, hm]
  simp only [nextD]
  refine Y20 ?_;refine Y1 ?_;refine yY ?_;refine Y55 ?_;refine Y45 ?_;refine Tri.cond rfl (fun hc => ?_) (fun hc => ?_)
  ·exfalso
   have := of_decide_eq_true hc
   omega
  ·skip
   refine Tri.skip ?_;refine Y29 ?_;refine Y13 ?_;refine yI ?_;refine yI ?_;refine Y50 ?_;refine Y17 ?_;refine Y47 ?_;refine s_val (v_bin SS (h := shr40 _ _)) ?_;refine s_val (v_conv SS (hu := conv_ui _)) ?_;refine Y2 ?_;exact Tri.ret ⟨.inr rfl, ret1 rfl resV_tmp (VImp.refl _), zO⟩
class Bd (s : Sd) (l k : outParam Int) : Prop where
 h : 0 ≤ s.a ∧ s.a - l + 2002 * max l 0 ≤ 1152921504606846976 + k
class Bz (bs : List Int) : Prop where
 h : bs.length < 1000000
theorem Bd.ok {s : Sd} {l k : Int} (h : Bd s l k) (hk : k ≤ 1000000) : 0 ≤ s.a ∧ s.a < 4611686018427387904 := by
 have := h.h
 omega
theorem mix_a (bs : List Int) (s : Sd) : s.a ≤ (mixM bs s).a ∧ (mixM bs s).a ≤ s.a + 1 := by
 unfold mixM
 split <;> simp <;> omega
instance (bs : List Int) (s : Sd) (l k : Int) [h : Bd s l k] : Bd (drawM bs s).2 l (k + 1) := ⟨by
 have h1 := h.h
 have h2 := mix_a bs s
 simp only [drawM]
 omega⟩
def lessM (bs : List Int) (n : Int) (s : Sd) : Int × Sd := if n ≤ 0 then (0, s) else ((drawM bs s).1.tmod n, (drawM bs s).2)
theorem less_b (bs : List Int) {n : Int} (s : Sd) (hn : 0 < n) : 0 ≤ (lessM bs n s).1 ∧ (lessM bs n s).1 < n := by
 unfold lessM
 rw [if_neg (by omega)]
 have := draw_b bs s
 simp only
 rw [Int.tmod_eq_emod_of_nonneg this.1]
 have h1 := Int.emod_nonneg (drawM bs s).1 (b := n) (by omega)
 have h2 := Int.emod_lt_of_pos (drawM bs s).1 hn
 omega
instance (bs : List Int) (n : Int) (s : Sd) (l k : Int) [h : Bd s l k] : Bd (lessM bs n s).2 l (k + 1) := ⟨by
 unfold lessM
 split
 ·have := h.h
  show 0 ≤ s.a ∧ s.a - l + 2002 * max l 0 ≤ 1152921504606846976 + (k + 1)
  omega
 ·exact (inferInstance : Bd (drawM bs s).2 l (k + 1)).h⟩
theorem less_c (bs : List Int) [hz : Bz bs] (n : Int) (s : Sd) {l k : Int} [h : Bd s l k] (hk : k ≤ 1000000 := by decide) : HCall Tryz.prog G 76 [.ptr 950 [] 171, iv .i64 n] [] (stO bs s) (iv .i64 (lessM bs n s).1) (stO bs (lessM bs n s).2) [] := by
 have h1 := h.ok hk
 refine HCall.of_triD tbl 11 [950] Tryz.func76 rfl rfl rfl fun w0 M ρ0 D0 => ?_
 by_cases hn : n ≤ 0
 ·have e : lessM bs n s = (0, s) := if_pos hn
  rw [e];refine Y20 ?_;refine Y61 ?_;refine Tri.cond rfl (fun hc => ?_) (fun hc => ?_)
  ·skip
   refine Y8 ?_;exact Tri.ret ⟨.inr rfl, ret1 rfl resV_tmp (VImp.refl _), zO⟩
  ·exfalso
   have := of_decide_eq_false hc
   omega
 ·have e : lessM bs n s = ((drawM bs s).1.tmod n, (drawM bs s).2) := if_neg hn
  rw [e];refine Y20 ?_;refine Y61 ?_;refine Tri.cond rfl (fun hc => ?_) (fun hc => ?_)
  ·exfalso
   have := of_decide_eq_true hc
   omega
  ·skip
   refine Tri.skip ?_;refine Y1 ?_;refine s_call (draw_c bs s h1.1 h1.2 hz.h) ?_;refine yM ?_;refine s_val (v_int SS (u := iv .i64 ((drawM bs s).1.tmod n)) (h := by simp only [intBin]; rw [if_neg (by omega)])) ?_;refine Y2 ?_;exact Tri.ret ⟨.inr rfl, ret1 rfl resV_tmp (VImp.refl _), zO⟩
def seldomM (bs : List Int) (n : Int) (s : Sd) : Bool × Sd := ((lessM bs n s).1 == 0, (lessM bs n s).2)
instance (bs : List Int) (n : Int) (s : Sd) (l k : Int) [h : Bd s l k] : Bd (seldomM bs n s).2 l (k + 1) := (inferInstance : Bd (lessM bs n s).2 l (k + 1))
theorem seldom_c (bs : List Int) [hz : Bz bs] (n : Int) (s : Sd) {l k : Int} [h : Bd s l k] (hk : k ≤ 1000000 := by decide) : HCall Tryz.prog G 115 [.ptr 950 [] 171, iv .i64 n] [] (stO bs s) (bv (seldomM bs n s).1) (stO bs (seldomM bs n s).2) [] := by
 refine HCall.of_triD tbl 9 [950] Tryz.func115 rfl rfl rfl fun w0 M ρ0 D0 => ?_
 refine Y20 ?_;refine Y29 ?_;refine s_call (less_c bs n s hk) ?_;refine yI ?_;refine Y2 ?_;exact Tri.ret ⟨.inr rfl, ret1 rfl resV_tmp (VImp.refl _), zO⟩
def fromM (bs : List Int) (lo hi : Int) (s : Sd) : Int × Sd := (lo + (lessM bs (hi - lo + 1) s).1, (lessM bs (hi - lo + 1) s).2)
instance (bs : List Int) (a b : Int) (s : Sd) (l k : Int) [h : Bd s l k] : Bd (fromM bs a b s).2 l (k + 1) := (inferInstance : Bd (lessM bs (b - a + 1) s).2 l (k + 1))
theorem from_b (bs : List Int) {a b : Int} (s : Sd) (h : a ≤ b) : a ≤ (fromM bs a b s).1 ∧ (fromM bs a b s).1 ≤ b := by
 have := less_b bs s (n := b - a + 1) (by omega)
 simp only [fromM]
 omega
theorem from_c (bs : List Int) [hz : Bz bs] (a b : Int) (s : Sd) {l k : Int} [h : Bd s l k] (hk : k ≤ 1000000 := by decide) (hab : 0 ≤ a ∧ a ≤ b ∧ b ≤ 1000 := by decide) : HCall Tryz.prog G 207 [.ptr 950 [] 171, iv .i64 a, iv .i64 b] [] (stO bs s) (iv .i64 (fromM bs a b s).1) (stO bs (fromM bs a b s).2) [] := by
 have hf := from_b bs s hab.2.1
 simp only [fromM] at hf
 refine HCall.of_triD tbl 15 [950] Tryz.func207 rfl rfl rfl fun w0 M ρ0 D0 => ?_
 have e1 : IntKind.i64.wrap (IntKind.i64.wrap (b - a) + 1) = b - a + 1 := by rw [wrap64 (n := b - a) (by omega) (by omega), wrap64 (by omega) (by omega)]
 refine Y20 ?_;refine Y1 ?_;refine Y21 ?_;refine yM ?_;refine yI ?_;refine yI ?_;rw [e1];refine s_call (less_c bs (b - a + 1) s hk) ?_;refine yI ?_;refine Y2 ?_;exact Tri.ret ⟨.inr rfl, ret1 rfl resV_tmp (iv_imp (wrap64 (n := a + (lessM bs (b - a + 1) s).1) (by omega) (by omega))), zO⟩
instance : AgT Tryz.prog 28 (List.replicate 32 5) := ⟨by kernel_rfl⟩
def pickM (bs : List Int) (a n : Int) (s : Sd) : List Int × Sd := (sumR (fromM bs a (a + n - 1) s).1, (fromM bs a (a + n - 1) s).2)
instance (bs : List Int) (a b : Int) (s : Sd) (l k : Int) [h : Bd s l k] : Bd (pickM bs a b s).2 l (k + 1) := (inferInstance : Bd (fromM bs a (a + b - 1) s).2 l (k + 1))
theorem pick_c (bs : List Int) [hz : Bz bs] (a n : Int) (s : Sd) {l k : Int} [h : Bd s l k] (hk : k ≤ 1000000 := by decide) (hab : 0 ≤ a ∧ 1 ≤ n ∧ a + n ≤ 200 := by decide) : HCall Tryz.prog G 206 [.ptr 950 [] 171, iv .i64 a, iv .i64 n] [] (stO bs s) (.pu (refP (pickM bs a n s).1)) (stO bs (pickM bs a n s).2) [] := by
 have hf := from_b bs s (a := a) (b := a + n - 1) (by omega)
 have e0 : IntKind.u8.wrap (fromM bs a (a + n - 1) s).1 = (fromM bs a (a + n - 1) s).1 := by
  generalize (fromM bs a (a + n - 1) s).1 = x at hf
  simp only [IntKind.wrap, IntKind.bits, IntKind.signed]
  simp
  omega
 refine HCall.of_triD tbl 16 [950] Tryz.func206 rfl rfl rfl fun w0 M ρ0 D0 => ?_
 have e1 : IntKind.i64.wrap (IntKind.i64.wrap (a + n) - 1) = a + n - 1 := by rw [wrap64 (n := a + n) (by omega) (by omega), wrap64 (by omega) (by omega)]
 refine yR ?_;refine s_alloc SS 6 ?_;refine e_seqN [6] ?_;refine Y1 ?_;refine Y21 ?_;refine yM ?_;refine yI ?_;refine yI ?_;rw [e1];refine s_call (from_c bs a (a + n - 1) s hk (by omega)) ?_;refine s_val (v_conv SS (hu := conv_ib _)) ?_;rw [e0];refine Y41 ?_;exact Tri.ret ⟨.inr rfl, ret1 rfl resV_cell (ToPu.imp (by repeat constructor)), zO⟩
end Go.Proofs.YtkcgkignhpepkaaGreatDoor

/- The maker of terms: what it makes, and how many numbers it takes. -/
namespace Go.Proofs.YtkcgkignhpepkaaGreatDoor
open Go Hs
theorem Bd.mono {s : Sd} {l k k' : Int} (h : Bd s l k) (hk : k ≤ k') : Bd s l k' := ⟨by have := h.h; omega⟩
inductive BT where
 | n
 | b
 deriving DecidableEq
inductive TT where
 | ba (x : BT)
 | li (x : BT)
 | op (x : BT)
 | pa (x y : BT)
 | fn (x : BT)
 deriving DecidableEq
def natY : Ty := .mk 2 0 Z32 []
def lostY : Ty := .mk 1 99 Z32 []
def BT.ty : BT → Ty
 | .n => natY
 | .b => .mk 4 0 (sumR 1) []
def TT.ty : TT → Ty
 | .ba x => x.ty
 | .li x => .mk 4 0 (sumR 2) [x.ty]
 | .op x => .mk 4 0 (sumR 4) [x.ty]
 | .pa x y => .mk 4 0 (sumR 3) [x.ty, y.ty]
 | .fn x => .mk 3 0 Z32 [natY, x.ty]
inductive AB where
 | st
 | fl
 | ab
 deriving DecidableEq
def AB.ref : AB → List Int
 | .st => sumR 11
 | .fl => sumR 12
 | .ab => sumR 13
def leM (s t : Tm) : Tm := .mk 5 0 Z32 [s, t] []
def coM (r : List Int) (n : Int) (ks : List Tm) : Tm := .mk 8 n r ks []
def doT (r : List Int) (n : Int) (t : Tm) : Tm := .mk 11 n r [t] []
def haM (r : List Int) (ks : List Tm) : Tm := .mk 12 0 r ks []
def zeroM : Tm := .mk 0 0 Z32 [] []
variable (bs : List Int)
def plain0M (s : Sd) : BT × Sd := (if (lessM bs 6 s).1 < 4 then .b else .n, (lessM bs 6 s).2)
instance (s : Sd) (l k : Int) [h : Bd s l k] : Bd (plain0M bs s).2 l (k + 1) := (inferInstance : Bd (lessM bs 6 s).2 l (k + 1))
def plain1M (s : Sd) : TT × Sd :=
 if (lessM bs 6 s).1 = 0 then (.li (plain0M bs (lessM bs 6 s).2).1, (plain0M bs (lessM bs 6 s).2).2)
 else if (lessM bs 6 s).1 = 1 then (.op (plain0M bs (lessM bs 6 s).2).1, (plain0M bs (lessM bs 6 s).2).2)
 else if (lessM bs 6 s).1 = 2 then (.pa (plain0M bs (lessM bs 6 s).2).1 (plain0M bs (plain0M bs (lessM bs 6 s).2).2).1, (plain0M bs (plain0M bs (lessM bs 6 s).2).2).2)
 else (.ba (if (lessM bs 6 s).1 < 4 then .b else .n), (lessM bs 6 s).2)
instance (s : Sd) (l k : Int) [h : Bd s l k] : Bd (plain1M bs s).2 l (k + 3) := by
 unfold plain1M
 split
 ·exact Bd.mono (inferInstance : Bd (plain0M bs (lessM bs 6 s).2).2 l _) (by omega)
 split
 ·exact Bd.mono (inferInstance : Bd (plain0M bs (lessM bs 6 s).2).2 l _) (by omega)
 split
 ·exact Bd.mono (inferInstance : Bd (plain0M bs (plain0M bs (lessM bs 6 s).2).2).2 l _) (by omega)
 ·exact Bd.mono (inferInstance : Bd (lessM bs 6 s).2 l _) (by omega)
def someM (s : Sd) : TT × Sd := if (seldomM bs 5 s).1 then (.fn (plain0M bs (seldomM bs 5 s).2).1, (plain0M bs (seldomM bs 5 s).2).2) else plain1M bs (seldomM bs 5 s).2
instance (s : Sd) (l k : Int) [h : Bd s l k] : Bd (someM bs s).2 l (k + 4) := by
 unfold someM
 split
 ·exact Bd.mono (inferInstance : Bd (plain0M bs (seldomM bs 5 s).2).2 l _) (by omega)
 ·exact Bd.mono (inferInstance : Bd (plain1M bs (seldomM bs 5 s).2).2 l _) (by omega)
mutual
def sameTy : Ty → Ty → Bool
 | .mk k n r ks, .mk k' n' r' ks' => k == k' && n == n' && r == r' && sameTys ks ks'
def sameTys : List Ty → List Ty → Bool
 | [], [] => true
 | t :: ts, u :: us => sameTy t u && sameTys ts us
 | [], _ :: _ => false
 | _ :: _, [] => false
end
def knM (vars : List Ty) (t : Ty) (i : Nat) : List Tm := (List.range i).filterMap fun (j : Nat) => match vars[j]? with
 | some u => if sameTy u t then some (vaM ((vars.length : Int) - 1 - (j : Int))) else none
 | none => none
def heldM (vars : List Ty) (t : Ty) (s : Sd) : (Tm × Bool) × Sd :=
 if (knM vars t vars.length).length = 0 then ((zeroM, false), s)
 else (((knM vars t vars.length).getD (lessM bs (knM vars t vars.length).length s).1.toNat zeroM, true), (lessM bs (knM vars t vars.length).length s).2)
instance (vars : List Ty) (t : Ty) (s : Sd) (l k : Int) [h : Bd s l k] : Bd (heldM bs vars t s).2 l (k + 1) := by
 unfold heldM
 split
 ·exact Bd.mono h (by omega)
 ·exact (inferInstance : Bd (lessM bs _ s).2 l _)
def keepM (vars : List Ty) (t : Ty) (base : Sd → Tm × Sd) (s : Sd) : Tm × Sd :=
 if (heldM bs vars t s).1.2 = true then
  if (seldomM bs 3 (heldM bs vars t s).2).1 = false then ((heldM bs vars t s).1.1, (seldomM bs 3 (heldM bs vars t s).2).2) else base (seldomM bs 3 (heldM bs vars t s).2).2
 else base (heldM bs vars t s).2
theorem keep_bd (vars : List Ty) (t : Ty) (base : Sd → Tm × Sd) (c : Int) (hc : 0 ≤ c) (hb : ∀ (s : Sd) (l k : Int), Bd s l k → Bd (base s).2 l (k + c)) (s : Sd) (l k : Int) (h : Bd s l k) : Bd (keepM bs vars t base s).2 l (k + (c + 2)) := by
 unfold keepM
 split
 ·have h1 : Bd (seldomM bs 3 (heldM bs vars t s).2).2 l (k + 1 + 1) := inferInstance
  split
  ·exact Bd.mono h1 (by omega)
  ·exact Bd.mono (hb _ _ _ h1) (by omega)
 ·have h1 : Bd (heldM bs vars t s).2 l (k + 1) := inferInstance
  exact Bd.mono (hb _ _ _ h1) (by omega)
def base0M : BT → Sd → Tm × Sd
 | .n, s => (nuM (lessM bs 4 s).1, (lessM bs 4 s).2)
 | .b, s => (coM (sumR 1) (lessM bs 2 s).1 [], (lessM bs 2 s).2)
theorem base0_bd (x : BT) (s : Sd) (l k : Int) (h : Bd s l k) : Bd (base0M bs x s).2 l (k + 1) := by
 cases x
 ·exact (inferInstance : Bd (lessM bs 4 s).2 l _)
 ·exact (inferInstance : Bd (lessM bs 2 s).2 l _)
def leaf0M (x : BT) (vars : List Ty) (s : Sd) : Tm × Sd := keepM bs vars x.ty (base0M bs x) s
theorem leaf0_bd (x : BT) (vars : List Ty) (s : Sd) (l k : Int) (h : Bd s l k) : Bd (leaf0M bs x vars s).2 l (k + 3) := keep_bd bs vars x.ty _ 1 (by omega) (base0_bd bs x) s l k h
instance (x : BT) (vars : List Ty) (s : Sd) (l k : Int) [h : Bd s l k] : Bd (leaf0M bs x vars s).2 l (k + 3) := leaf0_bd bs x vars s l k h
def base1M (vars : List Ty) : TT → Sd → Tm × Sd
 | .ba x, s => base0M bs x s
 | .li _, s => (coM (sumR 2) 0 [], s)
 | .op _, s => (coM (sumR 4) 0 [], s)
 | .pa x y, s => (coM (sumR 3) 0 [(leaf0M bs x vars s).1, (leaf0M bs y vars (leaf0M bs x vars s).2).1], (leaf0M bs y vars (leaf0M bs x vars s).2).2)
 | .fn x, s => (laM (leaf0M bs x (vars ++ [natY]) s).1, (leaf0M bs x (vars ++ [natY]) s).2)
theorem base1_bd (vars : List Ty) (t : TT) (s : Sd) (l k : Int) (h : Bd s l k) : Bd (base1M bs vars t s).2 l (k + 6) := by
 cases t with
 | ba x => exact Bd.mono (base0_bd bs x s l k h) (by omega)
 | li x => exact Bd.mono h (by omega)
 | op x => exact Bd.mono h (by omega)
 | pa x y => exact Bd.mono (inferInstance : Bd (leaf0M bs y vars (leaf0M bs x vars s).2).2 l _) (by omega)
 | fn x => exact Bd.mono (inferInstance : Bd (leaf0M bs x (vars ++ [natY]) s).2 l _) (by omega)
def leafM (t : TT) (vars : List Ty) (s : Sd) : Tm × Sd := keepM bs vars t.ty (base1M bs vars t) s
instance (t : TT) (vars : List Ty) (s : Sd) (l k : Int) [h : Bd s l k] : Bd (leafM bs t vars s).2 l (k + 8) := keep_bd bs vars t.ty _ 6 (by omega) (base1_bd bs vars t) s l k h
structure Mk where
 f : TT → List Ty → List AB → Sd → Int → Tm × Sd × Int
class Mc (m : Mk) : Prop where
 h : ∀ t v a s l k, Bd s l k → Bd (m.f t v a s l).2.1 (m.f t v a s l).2.2 (k + 100)
instance (m : Mk) [hm : Mc m] (t : TT) (v : List Ty) (a : List AB) (s : Sd) (l k : Int) [h : Bd s l k] : Bd (m.f t v a s l).2.1 (m.f t v a s l).2.2 (k + 100) := hm.h t v a s l k h
variable (m : Mk)
def madeM : TT → List Ty → List AB → Sd → Int → Tm × Sd × Int
 | .fn x, v, _, s, l => let e := m.f (.ba x) (v ++ [natY]) [] s l; (laM e.1, e.2)
 | .ba .n, v, a, s, l =>
  let q := lessM bs 9 s
  if q.1 = 0 then let e := m.f (.ba .n) v a q.2 l; (apM (deM (sumR 21)) e.1, e.2)
  else if q.1 = 1 then let e := m.f (.ba .n) v a q.2 l; let g := m.f (.ba .n) v a e.2.1 e.2.2; (apM (apM (deM (sumR 22)) e.1) g.1, g.2)
  else if q.1 = 2 then let e := m.f (.li .n) v a q.2 l; (apM (deM (sumR 23)) e.1, e.2)
  else if q.1 = 3 then let n := lessM bs 4 q.2; (apM (deM (sumR 24)) (nuM n.1), n.2, l)
  else if q.1 < 7 then let n := fromM bs 1 5 q.2; let e := m.f (.ba .n) v a n.2 l; let g := m.f (.ba .n) v a e.2.1 e.2.2; (prM n.1 e.1 g.1, g.2)
  else let n := lessM bs 6 q.2; (nuM ([0, 1, 2, 3, 7, 1073741824].getD n.1.toNat 0), n.2, l)
 | .ba .b, _, _, s, l => let n := lessM bs 2 s; (coM (sumR 1) n.1 [], n.2, l)
 | .li x, v, a, s, l =>
  let q := seldomM bs 3 s
  if q.1 = false then let e := m.f (.ba x) v a q.2 l; let g := m.f (.li x) v a e.2.1 e.2.2; (coM (sumR 2) 1 [e.1, g.1], g.2) else (coM (sumR 2) 0 [], q.2, l)
 | .op x, v, a, s, l =>
  let q := seldomM bs 3 s
  if q.1 = false then let e := m.f (.ba x) v a q.2 l; (coM (sumR 4) 1 [e.1], e.2) else (coM (sumR 4) 0 [], q.2, l)
 | .pa x y, v, a, s, l => let e := m.f (.ba x) v a s l; let g := m.f (.ba y) v a e.2.1 e.2.2; (coM (sumR 3) 0 [e.1, g.1], g.2)
def askMk (t : TT) (v : List Ty) (a : List AB) (s : Sd) (l : Int) : (Tm × Bool) × Sd × Int :=
 if a.length = 0 then ((zeroM, false), s, l)
 else
  let q := lessM bs a.length s
  let c := a.getD q.1.toNat .ab
  if (t = .ba .n ∧ c ≠ .fl) ∨ (t = .ba .b ∧ c = .fl) then
   if c = .st then let n := lessM bs 2 q.2; let e := m.f (.ba .n) v a n.2 l; ((doT c.ref n.1 e.1, true), e.2)
   else let e := m.f (.ba .n) v a q.2 l; ((doT c.ref 0 e.1, true), e.2)
  else ((zeroM, false), q.2, l)
def matchMk (t : TT) (v : List Ty) (a : List AB) (s : Sd) (l : Int) : Tm × Sd × Int :=
 let u := plain0M bs s
 let q := lessM bs 6 u.2
 if q.1 = 0 then
  let x := m.f (.ba .n) v a q.2 l
  let n := lessM bs 3 x.2.1
  let e := m.f t v a n.2 x.2.2
  let g := m.f t (v ++ [natY]) a e.2.1 e.2.2
  (maM x.1 [.mk (pnM n.1) e.1, .mk anyM g.1], g.2)
 else if q.1 = 1 then
  let x := m.f (.ba .b) v a q.2 l
  let n := lessM bs 2 x.2.1
  let e := m.f t v a n.2 x.2.2
  let g := m.f t (v ++ [BT.b.ty]) a e.2.1 e.2.2
  (maM x.1 [.mk (pcM (sumR 1) n.1 []) e.1, .mk anyM g.1], g.2)
 else if q.1 = 2 then
  let x := m.f (.li u.1) v a q.2 l
  let e := m.f t v a x.2.1 x.2.2
  let g := m.f t (v ++ [u.1.ty]) a e.2.1 e.2.2
  let h := m.f t (v ++ [u.1.ty, (TT.li u.1).ty]) a g.2.1 g.2.2
  (maM x.1 [.mk (pcM (sumR 2) 0 []) e.1, .mk (pcM (sumR 2) 1 [anyM, pcM (sumR 2) 0 []]) g.1, .mk (pcM (sumR 2) 1 [anyM, anyM]) h.1], h.2)
 else if q.1 = 3 then
  let x := m.f (.op u.1) v a q.2 l
  let e := m.f t (v ++ [u.1.ty]) a x.2.1 x.2.2
  let g := m.f t v a e.2.1 e.2.2
  (maM x.1 [.mk (pcM (sumR 4) 1 [anyM]) e.1, .mk (pcM (sumR 4) 0 []) g.1], g.2)
 else if q.1 = 4 then
  let x := m.f (.pa u.1 .n) v a q.2 l
  let n := lessM bs 2 x.2.1
  let e := m.f t (v ++ [u.1.ty]) a n.2 x.2.2
  let g := m.f t (v ++ [u.1.ty, natY]) a e.2.1 e.2.2
  (maM x.1 [.mk (pcM (sumR 3) 0 [anyM, pnM n.1]) e.1, .mk (pcM (sumR 3) 0 [anyM, anyM]) g.1], g.2)
 else
  let x := m.f (.ba .b) v a q.2 l
  let e := m.f t v a x.2.1 x.2.2
  let g := m.f t v a e.2.1 e.2.2
  (maM x.1 [.mk (pcM (sumR 1) 0 []) e.1, .mk (pcM (sumR 1) 1 []) g.1], g.2)
def clauseM (t : TT) (v : List Ty) (a : List AB) (back : BT) (s : Sd) (l : Int) : Tm × Sd × Int :=
 let e := m.f t (v ++ [natY, lostY]) a s l
 let q := seldomM bs 3 e.2.1
 if q.1 = false then
  let g := m.f (.ba back) (v ++ [natY, lostY]) a q.2 e.2.2
  let w := seldomM bs 4 g.2.1
  if w.1 = true then let h := m.f t (v ++ [natY, lostY] ++ [t.ty]) a w.2 g.2.2; (leM (apM (vaM 0) g.1) h.1, h.2) else (apM (vaM 0) g.1, w.2, g.2.2)
 else
  let w := seldomM bs 4 q.2
  if w.1 = true then let h := m.f t (v ++ [natY, lostY] ++ [t.ty]) a w.2 e.2.2; (leM e.1 h.1, h.2) else (e.1, w.2, e.2.2)
def clausesM (t : TT) (v : List Ty) (a : List AB) (back : BT) (s : Sd) (l : Int) : Nat → List Tm × Sd × Int
 | 0 => ([], s, l)
 | i + 1 =>
  let p := clausesM t v a back s l i
  let b := clauseM bs m t v a back p.2.1 p.2.2
  (p.1 ++ [b.1], b.2)
def abM (n : Int) : AB := if n = 0 then .st else if n = 1 then .fl else .ab
def isFn : TT → Bool
 | .fn _ => true
 | _ => false
def handleMk (t : TT) (v : List Ty) (a : List AB) (s : Sd) (l : Int) : Tm × Sd × Int :=
 let c := abM (lessM bs 3 s).1
 let q := seldomM bs 4 (lessM bs 3 s).2
 if q.1 = true ∨ isFn t = true then madeM bs m t v a q.2 l
 else
  let u := plain0M bs q.2
  let e := m.f (.ba u.1) v (if c ∈ a then a else a ++ [c]) u.2 l
  let g := m.f t (v ++ [u.1.ty]) a e.2.1 e.2.2
  let z := clausesM bs m t v a (if c = .fl then .b else .n) g.2.1 g.2.2 (if c = .st then 2 else 1)
  (haM c.ref (e.1 :: g.1 :: z.1), z.2)
def nodeM (t : TT) (v : List Ty) (a : List AB) (s : Sd) (l : Int) : Tm × Sd × Int :=
 let q := lessM bs 10 s
 if q.1 < 2 then
  let x := heldM bs v t.ty q.2
  if x.1.2 = true then (x.1.1, x.2, l) else madeM bs m t v a x.2 l
 else if q.1 = 2 then
  let u := someM bs q.2
  let e := m.f u.1 v a u.2 l
  let g := m.f t (v ++ [u.1.ty]) a e.2.1 e.2.2
  (leM e.1 g.1, g.2)
 else if q.1 = 3 then
  let u := someM bs q.2
  let e := m.f t (v ++ [u.1.ty]) a u.2 l
  let g := m.f u.1 v a e.2.1 e.2.2
  (apM (laM e.1) g.1, g.2)
 else if q.1 < 6 then matchMk bs m t v a q.2 l
 else if q.1 = 6 then
  let x := askMk bs m t v a q.2 l
  if x.1.2 = true then (x.1.1, x.2) else madeM bs m t v a x.2.1 x.2.2
 else if q.1 = 7 then handleMk bs m t v a q.2 l
 else madeM bs m t v a q.2 l
def termMk : Nat → Mk
 | 0 => ⟨fun t v _ s l => ((leafM bs t v s).1, (leafM bs t v s).2, l - 1)⟩
 | n + 1 => ⟨fun t v a s l => if l - 1 ≤ 0 then ((leafM bs t v s).1, (leafM bs t v s).2, l - 1) else nodeM bs (termMk n) t v a s (l - 1)⟩
end Go.Proofs.YtkcgkignhpepkaaGreatDoor

/- How many numbers the maker takes. -/
namespace Go.Proofs.YtkcgkignhpepkaaGreatDoor
open Go Hs
variable (bs : List Int) (m : Mk)
instance (t : TT) (v : List Ty) (a : List AB) (s : Sd) (l k : Int) [hm : Mc m] [h : Bd s l k] : Bd (madeM bs m t v a s l).2.1 (madeM bs m t v a s l).2.2 (k + 202) := by
 cases t with
 | ba x =>
  cases x <;> simp only [madeM] <;> repeat' split
  all_goals (refine Bd.mono inferInstance ?_; omega)
 | li x => simp only [madeM]; split <;> (refine Bd.mono inferInstance ?_; omega)
 | op x => simp only [madeM]; split <;> (refine Bd.mono inferInstance ?_; omega)
 | pa x y => simp only [madeM]; (refine Bd.mono inferInstance ?_; omega)
 | fn x => simp only [madeM]; (refine Bd.mono inferInstance ?_; omega)
instance (t : TT) (v : List Ty) (a : List AB) (s : Sd) (l k : Int) [hm : Mc m] [h : Bd s l k] : Bd (askMk bs m t v a s l).2.1 (askMk bs m t v a s l).2.2 (k + 102) := by
 simp only [askMk]
 repeat' split
 all_goals (refine Bd.mono inferInstance ?_; omega)
instance (t : TT) (v : List Ty) (a : List AB) (s : Sd) (l k : Int) [hm : Mc m] [h : Bd s l k] : Bd (matchMk bs m t v a s l).2.1 (matchMk bs m t v a s l).2.2 (k + 403) := by
 simp only [matchMk]
 repeat' split
 all_goals (refine Bd.mono inferInstance ?_; omega)
instance (t : TT) (v : List Ty) (a : List AB) (back : BT) (s : Sd) (l k : Int) [hm : Mc m] [h : Bd s l k] : Bd (clauseM bs m t v a back s l).2.1 (clauseM bs m t v a back s l).2.2 (k + 302) := by
 simp only [clauseM]
 repeat' split
 all_goals (refine Bd.mono inferInstance ?_; omega)
theorem clauses_bd (t : TT) (v : List Ty) (a : List AB) (back : BT) (s : Sd) (l k : Int) [hm : Mc m] [h : Bd s l k] : ∀ i : Nat, Bd (clausesM bs m t v a back s l i).2.1 (clausesM bs m t v a back s l i).2.2 (k + 302 * i)
 | 0 => by simp only [clausesM]; exact Bd.mono h (by omega)
 | i + 1 => by
  have := clauses_bd t v a back s l k i
  simp only [clausesM]
  refine Bd.mono inferInstance ?_
  push_cast
  omega
instance (t : TT) (v : List Ty) (a : List AB) (s : Sd) (l k : Int) [hm : Mc m] [h : Bd s l k] : Bd (handleMk bs m t v a s l).2.1 (handleMk bs m t v a s l).2.2 (k + 810) := by
 simp only [handleMk]
 split
 ·refine Bd.mono inferInstance ?_; omega
 ·generalize (if abM (lessM bs 3 s).1 ∈ a then a else a ++ [abM (lessM bs 3 s).1]) = a'
  generalize (if abM (lessM bs 3 s).1 = .fl then BT.b else .n) = b'
  refine Bd.mono (clauses_bd bs m t v a b' _ _ _ _) ?_
  split <;> simp <;> omega
instance (t : TT) (v : List Ty) (a : List AB) (s : Sd) (l k : Int) [hm : Mc m] [h : Bd s l k] : Bd (nodeM bs m t v a s l).2.1 (nodeM bs m t v a s l).2.2 (k + 811) := by
 simp only [nodeM]
 repeat' split
 all_goals (refine Bd.mono inferInstance ?_; omega)
theorem Bd.dec {s : Sd} {l k : Int} (h : Bd s l k) : Bd s (l - 1) (k + 1) := ⟨by have := h.h; omega⟩
theorem Bd.down {s : Sd} {l k : Int} (h : Bd s l k) (hl : 0 < l - 1) : Bd s (l - 1) (k - 2001) := ⟨by have := h.h; omega⟩
instance term_mc : ∀ n : Nat, Mc (termMk bs n)
 | 0 => ⟨fun t v a s l k h => by
  have := h.dec
  simp only [termMk]
  exact Bd.mono (inferInstance : Bd (leafM bs t v s).2 (l - 1) (k + 1 + 8)) (by omega)⟩
 | n + 1 => ⟨fun t v a s l k h => by
  have ih := term_mc n
  simp only [termMk]
  split
  ·have := h.dec
   exact Bd.mono (inferInstance : Bd (leafM bs t v s).2 (l - 1) (k + 1 + 8)) (by omega)
  ·have := h.down (by omega)
   exact Bd.mono (inferInstance : Bd (nodeM bs (termMk bs n) t v a s (l - 1)).2.1 _ (k - 2001 + 811)) (by omega)⟩
end Go.Proofs.YtkcgkignhpepkaaGreatDoor

