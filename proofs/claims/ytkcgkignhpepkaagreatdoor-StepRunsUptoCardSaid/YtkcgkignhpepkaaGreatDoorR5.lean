/- Part 5 of the proof: lemmas on walks and the walks of the functions, in their order. -/
import Derived.Test.YtkcgkignhpepkaaGreatDoorR4
set_option linter.unusedSimpArgs false
set_option linter.unusedVariables false
/- The place of work: found. -/
namespace Go.Proofs.YtkcgkignhpepkaaGreatDoor
open Go Hs
variable {G : List (Nat × TypeId × Pu)}
def manyM (k : Int) (n : Nat) : Nat := if k = 4 ∨ k = 10 ∨ k = 8 then n else if k = 5 ∨ k = 9 ∨ k = 11 ∨ k = 12 then 1 else 0
abbrev woO (k : Int) (n : Int) (r : List Int) (ks : List Tm) (cs : List Cs) : List (Nat × Ob) := [(811, .var 3 (iv .i64 (manyM k ks.length : Nat))), (812, .var 32 (.pu (tmc 0 (.mk k n r ks cs))))]
abbrev woV : PV := .fn (.func 242) [] [.ptr 811 [] 3, .ptr 812 [] 32]
theorem many_iv {P : Program} {k : Int} {n : Nat} {x : Int} (h : x = (manyM k n : Nat)) : ObImp P (.var 3 (iv .i64 x)) (.var 3 (iv .i64 (manyM k n : Nat))) := ob_iv h
theorem worked_c (k n : Int) (r : List Int) (ks : List Tm) (cs : List Cs) : HCall Tryz.prog G 219 [.pu (tmc 0 (.mk k n r ks cs))] [] [] woV (woO k n r ks cs) [812, 811] := by
 refine HCall.of_triD tbl 19 [] Tryz.func219 rfl rfl rfl fun w0 M ρ0 D0 => ?_
 refine yR ?_;refine s_box SS 812 ?_;refine yB ?_;refine e_seqN [812] ?_;refine yR ?_;refine s_alloc SS 811 ?_;refine yS ?_;refine e_seqN [811] ?_;refine Y13 ?_;refine Y0 ?_;refine Tri.block ?_;refine Y15 ?_;refine Tri.cond rfl (fun h0 => ?_) (fun h0 => ?_)
 ·skip
  refine Tri.skip ?_;refine tQ ?_;refine Tri.cond rfl (fun h2 => ?_) (fun h2 => ?_)
  ·skip
   refine Y14 ?_;refine yC ?_;refine Y66 ?_;refine s_val (v_mkFnD SS) ?_;refine Y2 ?_;exact Tri.ret ⟨.inr rfl, ret1 rfl resV_tmp (VImp.refl _), .cons rfl (many_iv (by simp only [beq_iff_eq, beq_eq_false_iff_ne, ne_eq] at *; first | (simp_all [manyM, tms_length]; done) | (simp only [tms_length]; simp_all [manyM]))) (.cons rfl (ObImp.refl _) .nil)⟩
  ·skip
   refine Y15 ?_;refine Tri.cond rfl (fun h3 => ?_) (fun h3 => ?_)
   ·skip
    refine Tri.skip ?_;refine tQ ?_;refine Tri.cond rfl (fun h6 => ?_) (fun h6 => ?_)
    ·skip
     refine yR ?_;refine Y66 ?_;refine s_val (v_mkFnD SS) ?_;refine Y2 ?_;exact Tri.ret ⟨.inr rfl, ret1 rfl resV_tmp (VImp.refl _), .cons rfl (many_iv (by simp only [beq_iff_eq, beq_eq_false_iff_ne, ne_eq] at *; first | (simp_all [manyM, tms_length]; done) | (simp only [tms_length]; simp_all [manyM]))) (.cons rfl (ObImp.refl _) .nil)⟩
    ·skip
     refine Tri.skip ?_;refine yR ?_;refine s_val (v_mkFnD SS) ?_;refine Y2 ?_;exact Tri.ret ⟨.inr rfl, ret1 rfl resV_tmp (VImp.refl _), .cons rfl (many_iv (by simp only [beq_iff_eq, beq_eq_false_iff_ne, ne_eq] at *; first | (simp_all [manyM, tms_length]; done) | (simp only [tms_length]; simp_all [manyM]))) (.cons rfl (ObImp.refl _) .nil)⟩
   ·skip
    refine Y15 ?_;refine Tri.cond rfl (fun h4 => ?_) (fun h4 => ?_)
    ·skip
     refine Tri.skip ?_;refine tQ ?_;refine Tri.cond rfl (fun h6 => ?_) (fun h6 => ?_)
     ·skip
      refine yR ?_;refine Y66 ?_;refine s_val (v_mkFnD SS) ?_;refine Y2 ?_;exact Tri.ret ⟨.inr rfl, ret1 rfl resV_tmp (VImp.refl _), .cons rfl (many_iv (by simp only [beq_iff_eq, beq_eq_false_iff_ne, ne_eq] at *; first | (simp_all [manyM, tms_length]; done) | (simp only [tms_length]; simp_all [manyM]))) (.cons rfl (ObImp.refl _) .nil)⟩
     ·skip
      refine Tri.skip ?_;refine yR ?_;refine s_val (v_mkFnD SS) ?_;refine Y2 ?_;exact Tri.ret ⟨.inr rfl, ret1 rfl resV_tmp (VImp.refl _), .cons rfl (many_iv (by simp only [beq_iff_eq, beq_eq_false_iff_ne, ne_eq] at *; first | (simp_all [manyM, tms_length]; done) | (simp only [tms_length]; simp_all [manyM]))) (.cons rfl (ObImp.refl _) .nil)⟩
    ·skip
     refine Y15 ?_;refine Tri.cond rfl (fun h5 => ?_) (fun h5 => ?_)
     ·skip
      refine Tri.skip ?_;refine tQ ?_;refine Tri.cond rfl (fun h6 => ?_) (fun h6 => ?_)
      ·skip
       refine yR ?_;refine Y66 ?_;refine s_val (v_mkFnD SS) ?_;refine Y2 ?_;exact Tri.ret ⟨.inr rfl, ret1 rfl resV_tmp (VImp.refl _), .cons rfl (many_iv (by simp only [beq_iff_eq, beq_eq_false_iff_ne, ne_eq] at *; first | (simp_all [manyM, tms_length]; done) | (simp only [tms_length]; simp_all [manyM]))) (.cons rfl (ObImp.refl _) .nil)⟩
      ·skip
       refine Tri.skip ?_;refine yR ?_;refine s_val (v_mkFnD SS) ?_;refine Y2 ?_;exact Tri.ret ⟨.inr rfl, ret1 rfl resV_tmp (VImp.refl _), .cons rfl (many_iv (by simp only [beq_iff_eq, beq_eq_false_iff_ne, ne_eq] at *; first | (simp_all [manyM, tms_length]; done) | (simp only [tms_length]; simp_all [manyM]))) (.cons rfl (ObImp.refl _) .nil)⟩
     ·skip
      refine Y15 ?_;refine Tri.cond rfl (fun h6 => ?_) (fun h6 => ?_)
      ·skip
       refine yR ?_;refine Y66 ?_;refine s_val (v_mkFnD SS) ?_;refine Y2 ?_;exact Tri.ret ⟨.inr rfl, ret1 rfl resV_tmp (VImp.refl _), .cons rfl (many_iv (by simp only [beq_iff_eq, beq_eq_false_iff_ne, ne_eq] at *; first | (simp_all [manyM, tms_length]; done) | (simp only [tms_length]; simp_all [manyM]))) (.cons rfl (ObImp.refl _) .nil)⟩
      ·skip
       refine Tri.skip ?_;refine yR ?_;refine s_val (v_mkFnD SS) ?_;refine Y2 ?_;exact Tri.ret ⟨.inr rfl, ret1 rfl resV_tmp (VImp.refl _), .cons rfl (many_iv (by simp only [beq_iff_eq, beq_eq_false_iff_ne, ne_eq] at *; first | (simp_all [manyM, tms_length]; done) | (simp only [tms_length]; simp_all [manyM]))) (.cons rfl (ObImp.refl _) .nil)⟩
 ·skip
  refine Y15 ?_;refine Tri.cond rfl (fun h1 => ?_) (fun h1 => ?_)
  ·skip
   refine Tri.skip ?_;refine tQ ?_;refine Tri.cond rfl (fun h2 => ?_) (fun h2 => ?_)
   ·skip
    refine Y14 ?_;refine yC ?_;refine Y66 ?_;refine s_val (v_mkFnD SS) ?_;refine Y2 ?_;exact Tri.ret ⟨.inr rfl, ret1 rfl resV_tmp (VImp.refl _), .cons rfl (many_iv (by simp only [beq_iff_eq, beq_eq_false_iff_ne, ne_eq] at *; first | (simp_all [manyM, tms_length]; done) | (simp only [tms_length]; simp_all [manyM]))) (.cons rfl (ObImp.refl _) .nil)⟩
   ·skip
    refine Y15 ?_;refine Tri.cond rfl (fun h3 => ?_) (fun h3 => ?_)
    ·skip
     refine Tri.skip ?_;refine tQ ?_;refine Tri.cond rfl (fun h6 => ?_) (fun h6 => ?_)
     ·skip
      refine yR ?_;refine Y66 ?_;refine s_val (v_mkFnD SS) ?_;refine Y2 ?_;exact Tri.ret ⟨.inr rfl, ret1 rfl resV_tmp (VImp.refl _), .cons rfl (many_iv (by simp only [beq_iff_eq, beq_eq_false_iff_ne, ne_eq] at *; first | (simp_all [manyM, tms_length]; done) | (simp only [tms_length]; simp_all [manyM]))) (.cons rfl (ObImp.refl _) .nil)⟩
     ·skip
      refine Tri.skip ?_;refine yR ?_;refine s_val (v_mkFnD SS) ?_;refine Y2 ?_;exact Tri.ret ⟨.inr rfl, ret1 rfl resV_tmp (VImp.refl _), .cons rfl (many_iv (by simp only [beq_iff_eq, beq_eq_false_iff_ne, ne_eq] at *; first | (simp_all [manyM, tms_length]; done) | (simp only [tms_length]; simp_all [manyM]))) (.cons rfl (ObImp.refl _) .nil)⟩
    ·skip
     refine Y15 ?_;refine Tri.cond rfl (fun h4 => ?_) (fun h4 => ?_)
     ·skip
      refine Tri.skip ?_;refine tQ ?_;refine Tri.cond rfl (fun h6 => ?_) (fun h6 => ?_)
      ·skip
       refine yR ?_;refine Y66 ?_;refine s_val (v_mkFnD SS) ?_;refine Y2 ?_;exact Tri.ret ⟨.inr rfl, ret1 rfl resV_tmp (VImp.refl _), .cons rfl (many_iv (by simp only [beq_iff_eq, beq_eq_false_iff_ne, ne_eq] at *; first | (simp_all [manyM, tms_length]; done) | (simp only [tms_length]; simp_all [manyM]))) (.cons rfl (ObImp.refl _) .nil)⟩
      ·skip
       refine Tri.skip ?_;refine yR ?_;refine s_val (v_mkFnD SS) ?_;refine Y2 ?_;exact Tri.ret ⟨.inr rfl, ret1 rfl resV_tmp (VImp.refl _), .cons rfl (many_iv (by simp only [beq_iff_eq, beq_eq_false_iff_ne, ne_eq] at *; first | (simp_all [manyM, tms_length]; done) | (simp only [tms_length]; simp_all [manyM]))) (.cons rfl (ObImp.refl _) .nil)⟩
     ·skip
      refine Y15 ?_;refine Tri.cond rfl (fun h5 => ?_) (fun h5 => ?_)
      ·skip
       refine Tri.skip ?_;refine tQ ?_;refine Tri.cond rfl (fun h6 => ?_) (fun h6 => ?_)
       ·skip
        refine yR ?_;refine Y66 ?_;refine s_val (v_mkFnD SS) ?_;refine Y2 ?_;exact Tri.ret ⟨.inr rfl, ret1 rfl resV_tmp (VImp.refl _), .cons rfl (many_iv (by simp only [beq_iff_eq, beq_eq_false_iff_ne, ne_eq] at *; first | (simp_all [manyM, tms_length]; done) | (simp only [tms_length]; simp_all [manyM]))) (.cons rfl (ObImp.refl _) .nil)⟩
       ·skip
        refine Tri.skip ?_;refine yR ?_;refine s_val (v_mkFnD SS) ?_;refine Y2 ?_;exact Tri.ret ⟨.inr rfl, ret1 rfl resV_tmp (VImp.refl _), .cons rfl (many_iv (by simp only [beq_iff_eq, beq_eq_false_iff_ne, ne_eq] at *; first | (simp_all [manyM, tms_length]; done) | (simp only [tms_length]; simp_all [manyM]))) (.cons rfl (ObImp.refl _) .nil)⟩
      ·skip
       refine Y15 ?_;refine Tri.cond rfl (fun h6 => ?_) (fun h6 => ?_)
       ·skip
        refine yR ?_;refine Y66 ?_;refine s_val (v_mkFnD SS) ?_;refine Y2 ?_;exact Tri.ret ⟨.inr rfl, ret1 rfl resV_tmp (VImp.refl _), .cons rfl (many_iv (by simp only [beq_iff_eq, beq_eq_false_iff_ne, ne_eq] at *; first | (simp_all [manyM, tms_length]; done) | (simp only [tms_length]; simp_all [manyM]))) (.cons rfl (ObImp.refl _) .nil)⟩
       ·skip
        refine Tri.skip ?_;refine yR ?_;refine s_val (v_mkFnD SS) ?_;refine Y2 ?_;exact Tri.ret ⟨.inr rfl, ret1 rfl resV_tmp (VImp.refl _), .cons rfl (many_iv (by simp only [beq_iff_eq, beq_eq_false_iff_ne, ne_eq] at *; first | (simp_all [manyM, tms_length]; done) | (simp only [tms_length]; simp_all [manyM]))) (.cons rfl (ObImp.refl _) .nil)⟩
  ·skip
   refine Y15 ?_;refine Tri.cond rfl (fun h2 => ?_) (fun h2 => ?_)
   ·skip
    refine Y14 ?_;refine yC ?_;refine Y66 ?_;refine s_val (v_mkFnD SS) ?_;refine Y2 ?_;exact Tri.ret ⟨.inr rfl, ret1 rfl resV_tmp (VImp.refl _), .cons rfl (many_iv (by simp only [beq_iff_eq, beq_eq_false_iff_ne, ne_eq] at *; first | (simp_all [manyM, tms_length]; done) | (simp only [tms_length]; simp_all [manyM]))) (.cons rfl (ObImp.refl _) .nil)⟩
   ·skip
    refine Y15 ?_;refine Tri.cond rfl (fun h3 => ?_) (fun h3 => ?_)
    ·skip
     refine Tri.skip ?_;refine tQ ?_;refine Tri.cond rfl (fun h6 => ?_) (fun h6 => ?_)
     ·skip
      refine yR ?_;refine Y66 ?_;refine s_val (v_mkFnD SS) ?_;refine Y2 ?_;exact Tri.ret ⟨.inr rfl, ret1 rfl resV_tmp (VImp.refl _), .cons rfl (many_iv (by simp only [beq_iff_eq, beq_eq_false_iff_ne, ne_eq] at *; first | (simp_all [manyM, tms_length]; done) | (simp only [tms_length]; simp_all [manyM]))) (.cons rfl (ObImp.refl _) .nil)⟩
     ·skip
      refine Tri.skip ?_;refine yR ?_;refine s_val (v_mkFnD SS) ?_;refine Y2 ?_;exact Tri.ret ⟨.inr rfl, ret1 rfl resV_tmp (VImp.refl _), .cons rfl (many_iv (by simp only [beq_iff_eq, beq_eq_false_iff_ne, ne_eq] at *; first | (simp_all [manyM, tms_length]; done) | (simp only [tms_length]; simp_all [manyM]))) (.cons rfl (ObImp.refl _) .nil)⟩
    ·skip
     refine Y15 ?_;refine Tri.cond rfl (fun h4 => ?_) (fun h4 => ?_)
     ·skip
      refine Tri.skip ?_;refine tQ ?_;refine Tri.cond rfl (fun h6 => ?_) (fun h6 => ?_)
      ·skip
       refine yR ?_;refine Y66 ?_;refine s_val (v_mkFnD SS) ?_;refine Y2 ?_;exact Tri.ret ⟨.inr rfl, ret1 rfl resV_tmp (VImp.refl _), .cons rfl (many_iv (by simp only [beq_iff_eq, beq_eq_false_iff_ne, ne_eq] at *; first | (simp_all [manyM, tms_length]; done) | (simp only [tms_length]; simp_all [manyM]))) (.cons rfl (ObImp.refl _) .nil)⟩
      ·skip
       refine Tri.skip ?_;refine yR ?_;refine s_val (v_mkFnD SS) ?_;refine Y2 ?_;exact Tri.ret ⟨.inr rfl, ret1 rfl resV_tmp (VImp.refl _), .cons rfl (many_iv (by simp only [beq_iff_eq, beq_eq_false_iff_ne, ne_eq] at *; first | (simp_all [manyM, tms_length]; done) | (simp only [tms_length]; simp_all [manyM]))) (.cons rfl (ObImp.refl _) .nil)⟩
     ·skip
      refine Y15 ?_;refine Tri.cond rfl (fun h5 => ?_) (fun h5 => ?_)
      ·skip
       refine Tri.skip ?_;refine tQ ?_;refine Tri.cond rfl (fun h6 => ?_) (fun h6 => ?_)
       ·skip
        refine yR ?_;refine Y66 ?_;refine s_val (v_mkFnD SS) ?_;refine Y2 ?_;exact Tri.ret ⟨.inr rfl, ret1 rfl resV_tmp (VImp.refl _), .cons rfl (many_iv (by simp only [beq_iff_eq, beq_eq_false_iff_ne, ne_eq] at *; first | (simp_all [manyM, tms_length]; done) | (simp only [tms_length]; simp_all [manyM]))) (.cons rfl (ObImp.refl _) .nil)⟩
       ·skip
        refine Tri.skip ?_;refine yR ?_;refine s_val (v_mkFnD SS) ?_;refine Y2 ?_;exact Tri.ret ⟨.inr rfl, ret1 rfl resV_tmp (VImp.refl _), .cons rfl (many_iv (by simp only [beq_iff_eq, beq_eq_false_iff_ne, ne_eq] at *; first | (simp_all [manyM, tms_length]; done) | (simp only [tms_length]; simp_all [manyM]))) (.cons rfl (ObImp.refl _) .nil)⟩
      ·skip
       refine Y15 ?_;refine Tri.cond rfl (fun h6 => ?_) (fun h6 => ?_)
       ·skip
        refine yR ?_;refine Y66 ?_;refine s_val (v_mkFnD SS) ?_;refine Y2 ?_;exact Tri.ret ⟨.inr rfl, ret1 rfl resV_tmp (VImp.refl _), .cons rfl (many_iv (by simp only [beq_iff_eq, beq_eq_false_iff_ne, ne_eq] at *; first | (simp_all [manyM, tms_length]; done) | (simp only [tms_length]; simp_all [manyM]))) (.cons rfl (ObImp.refl _) .nil)⟩
       ·skip
        refine Tri.skip ?_;refine yR ?_;refine s_val (v_mkFnD SS) ?_;refine Y2 ?_;exact Tri.ret ⟨.inr rfl, ret1 rfl resV_tmp (VImp.refl _), .cons rfl (many_iv (by simp only [beq_iff_eq, beq_eq_false_iff_ne, ne_eq] at *; first | (simp_all [manyM, tms_length]; done) | (simp only [tms_length]; simp_all [manyM]))) (.cons rfl (ObImp.refl _) .nil)⟩
abbrev plO (acc : List Nat) (t : Tm) : List (Nat × Ob) := [(1, .var 32 (.pu (tmc 0 t))), (3, .var 39 (.ow 0 3 (pathL acc)))]
structure Wi where
 i : Nat
 t : Tm
def wiL (t : Tm) : List Wi := match t with
 | .mk k _ _ ks _ => (ks.take (manyM k ks.length)).mapIdx fun i x => ⟨i, x⟩
def wiE (x : Wi) : List PV := [iv .i64 x.i, .pu (tmc 0 x.t)]
def wOut (x : Wi) : Option Wi := if valM x.t then none else some x
def wOb (acc : List Nat) (x : Wi) : List (Nat × Ob) := plO (acc ++ [x.i]) x.t
def rOfX (c : Code) (r : Loop) : Option Wi → Loop
 | none => r
 | some _ => doneL r c
def aOf (acc : List Nat) : Option Wi → List Nat
 | none => acc
 | some x => acc ++ [x.i]
def tOf (t : Tm) : Option Wi → Tm
 | none => t
 | some x => x.t
theorem yc_w {P : Program} {X : Ctx} {l lam : Nat} {r : Loop} {HR : List (Nat × Ob)} {out : Wi → Option Wi} {acc : List Nat} {t : Tm} {c : Code} {x : Wi} (h : YC P X l lam r HR (plO acc t) wiE out (fun _ => c) (wOb acc) x) :
  YCall P X l (wiE x) HR ((lam, .loop r) :: plO acc t) (bv (out x).isNone) [(lam, .loop (rOfX c r (out x))), (1, .var 32 (.pu (tmc 0 (tOf t (out x))))), (3, .var 39 (.ow 0 3 (pathL (aOf acc (out x)))))] := by
 unfold YC at h
 cases ho : out x with
 | none => rw [ho] at h; exact h
 | some e => rw [ho] at h; exact h
theorem worked1_c (k n : Int) (r : List Int) (ks : List Tm) (cs : List Cs) (hm : manyM k ks.length ≤ ks.length) (hl : ks.length < 2^40) (acc : List Nat) (out : Wi → Option Wi) :
  IterC Tryz.prog G 242 [.ptr 811 [] 3, .ptr 812 [] 32] 900 [811, 812, 1, 3, 900] (woO k n r ks cs) (plO acc (.mk k n r ks cs)) (wiL (.mk k n r ks cs)) wiE out (fun _ => .exit 1) (wOb acc) := by
 refine IterC.of_tri tbl 19 Tryz.func242 rfl rfl (fun r z => by cases z <;> rfl) fun l rc w0 M ρ0 D0 hy => ?_
 have hL : (wiL (.mk k n r ks cs)).length = manyM k ks.length := by simp [wiL]; omega
 have hk : ∀ i (hi : i < manyM k ks.length), (wiL (.mk k n r ks cs))[i]'(by omega) = ⟨i, ks[i]'(by omega)⟩ := fun i hi => by simp [wiL]
 refine Y6 ?_;refine yJ ?_;refine Y0 ?_;refine Tri.block (Tri.loopW (σ := {i : Nat // ∀ j (hj : j < i) (h : j < manyM k ks.length), out ⟨j, ks[j]'(by omega)⟩ = none}) (fun i => ⟨[(0, .fn (.yield l) [] []), (2, .ptr 812 [] 32), (5, iv .i64 (manyM k ks.length : Nat)), (6, iv .i64 i.1)], [(811, .var 3 (iv .i64 (manyM k ks.length : Nat))), (812, .var 32 (.pu (tmc 0 (.mk k n r ks cs)))), (900, .loop rc), (1, .var 32 (.pu (tmc 0 (.mk k n r ks cs)))), (3, .var 39 (.ow 0 3 (pathL acc)))]⟩) (fun i => manyM k ks.length - i.1) ⟨0, by intro j hj; omega⟩ ?_ ?_ (fun i => ?_))
 ·exact zW
 ·exact zW
 refine Y39 ?_;refine Tri.cond rfl (fun h0 => ?_) (fun h0 => ?_)
 ·skip
  have hi : i.1 < manyM k ks.length := by simpa using h0
  have hi' : i.1 < ks.length := by omega
  have hy' := yc_w (hy ⟨i.1, ks[i.1]⟩ (by rw [← hk i.1 hi]; exact List.getElem_mem _))
  refine Tri.skip ?_;refine tQ ?_;refine Tri.block ?_;refine Y75 ?_;refine Y20 ?_;refine Y46 ?_;refine s_val (v_index SS (h0 := by omega) (hp := tms_get hi')) ?_;refine yL ?_;refine s_yield hy' ?_;refine Y74 ?_;refine Tri.cond rfl (fun h1 => ?_) (fun h1 => ?_)
  ·skip
   obtain ⟨e, he⟩ : ∃ e, out ⟨i.1, ks[i.1]⟩ = some e := by
    cases ho : out ⟨i.1, ks[i.1]⟩ with
    | none => rw [ho] at h1; cases h1
    | some e => exact ⟨e, rfl⟩
   have hfin : (wiL (.mk k n r ks cs)).findSome? out = some e := find_at (i := i.1) (by rw [hL]; omega) (fun j hj => by rw [hk j (by omega)]; exact i.2 j hj (by omega)) (by rw [hk i.1 hi]; exact he)
   rw [hfin];refine tQ ?_;exact Tri.ret ⟨.inr rfl, ret0, .cons rfl (by rw [he]; exact ObImp.refl _) (.cons rfl (by rw [he]; exact ObImp.refl _) (.cons rfl (by rw [he]; exact ObImp.refl _) .nil))⟩
  ·skip
   have he : out ⟨i.1, ks[i.1]⟩ = none := by
    cases ho : out ⟨i.1, ks[i.1]⟩ with
    | none => rfl
    | some e => rw [ho] at h1; cases h1
   have hnext : ∀ j (hj : j < i.1 + 1) (h : j < manyM k ks.length), out ⟨j, ks[j]'(by omega)⟩ = none := fun j hj h => by
    rcases Nat.lt_or_ge j i.1 with h' | h'
    ·exact i.2 j h' h
    ·obtain rfl : j = i.1 := by omega
     exact he
   refine Tri.skip ?_;refine Y30 ?_
   refine ⟨⟨i.1 + 1, hnext⟩, by show manyM k ks.length - (i.1 + 1) < manyM k ks.length - i.1; omega, le_of ?_ ?_⟩
   ·repeat (first | exact SubE.nil | refine SubE.cons rfl (by first | rfl | (rw [wrap64 (by omega) (by omega)]; rfl) | (rw [he]; rfl)) ?_)
   ·repeat (first | exact SubH.nil | refine SubH.cons rfl (by first | rfl | (rw [wrap64 (by omega) (by omega)]; rfl) | (rw [he]; rfl)) ?_)
 ·skip
  have hfin : (wiL (.mk k n r ks cs)).findSome? out = none := find_none fun j hj => by
   rw [hL] at hj
   rw [hk j hj]; exact i.2 j (by simp at h0; omega) hj
  rw [hfin];refine Tri.exit ?_;exact ⟨.inl rfl, ret0, .cons rfl (ObImp.refl _) (.cons rfl (ObImp.refl _) (.cons rfl (ObImp.refl _) .nil))⟩
end Go.Proofs.YtkcgkignhpepkaaGreatDoor

/- The path to the place of work. -/
namespace Go.Proofs.YtkcgkignhpepkaaGreatDoor
open Go Hs
variable {G : List (Nat × TypeId × Pu)}
mutual
def shT : Tm → Prop
 | .mk k n _ ks cs => kidsM k ks.length = true ∧ (k = 11 → 0 ≤ n ∧ n ≤ 7) ∧ shL ks ∧ shC cs
def shL : List Tm → Prop
 | [] => True
 | t :: ts => shT t ∧ shL ts
def shC : List Cs → Prop
 | [] => True
 | c :: cs => shS c ∧ shC cs
def shS : Cs → Prop
 | .mk _ t => shT t
end
theorem shL_mem : ∀ {ks : List Tm}, shL ks → ∀ k ∈ ks, shT k
 | [], _, k, h => by cases h
 | p :: ps, h, k, hk => by
  rcases List.mem_cons.1 hk with rfl | hk
  ·exact h.1
  ·exact shL_mem h.2 k hk
theorem many_le {k : Int} {n : Nat} (h : kidsM k n = true) : manyM k n ≤ n := by
 unfold manyM
 split
 ·omega
 ·split
  ·rename_i h1
   unfold kidsM offM at h
   rcases h1 with rfl | rfl | rfl | rfl <;> simp at h <;> omega
  ·omega
mutual
def placeM : Tm → List Nat
 | .mk k _ _ ks _ => placeL (manyM k ks.length) 0 ks
def placeL (many i : Nat) : List Tm → List Nat
 | [] => []
 | t :: ts => if i < many then (if valM t then placeL many (i + 1) ts else i :: placeM t) else []
end
mutual
theorem place_len : ∀ t : Tm, (placeM t).length + 1 ≤ tsize t
 | .mk k _ _ ks cs => by
  have := placeL_len (manyM k ks.length) 0 ks
  simp only [placeM, tsize]; omega
theorem placeL_len (many i : Nat) : ∀ ks : List Tm, (placeL many i ks).length ≤ tsizeL ks
 | [] => by simp [placeL]
 | t :: ts => by
  have h1 := place_len t
  have h2 := placeL_len many (i + 1) ts
  simp only [placeL, tsizeL]
  split
  ·split
   ·omega
   ·simp; omega
  ·simp
end
theorem zP (many : Nat) : ∀ (ks : List Tm) (i : Nat), match ((ks.take (many - i)).mapIdx fun j x => (⟨i + j, x⟩ : Wi)).findSome? wOut with
  | none => placeL many i ks = []
  | some z => placeL many i ks = z.i :: placeM z.t ∧ i ≤ z.i ∧ ks[z.i - i]? = some z.t ∧ valM z.t = false
 | [], i => by simp [placeL]
 | t :: ts, i => by
  by_cases hi : i < many
  ·obtain ⟨d, hd⟩ : ∃ d, many - i = d + 1 := ⟨many - i - 1, by omega⟩
   have ih := zP many ts (i + 1)
   rw [show many - (i + 1) = d by omega] at ih
   rw [hd]
   simp only [List.take_succ_cons, List.mapIdx_cons, List.findSome?_cons, Nat.add_zero, placeL, if_pos hi]
   have e : (fun (j : Nat) (x : Tm) => (⟨i + (j + 1), x⟩ : Wi)) = fun j x => ⟨i + 1 + j, x⟩ := by funext j x; rw [show i + (j + 1) = i + 1 + j by omega]
   rw [e]
   by_cases hv : valM t = true
   ·rw [show wOut ⟨i, t⟩ = none by simp [wOut, hv]]
    simp only [hv, if_true]
    generalize hq : ((ts.take d).mapIdx fun j x => (⟨i + 1 + j, x⟩ : Wi)).findSome? wOut = q at ih ⊢
    cases q with
    | none => exact ih
    | some z =>
     obtain ⟨h1, h2, h3, h4⟩ := ih
     refine ⟨h1, by omega, ?_, h4⟩
     rw [show z.i - i = (z.i - (i + 1)) + 1 by omega]
     simpa using h3
   ·rw [show wOut ⟨i, t⟩ = some ⟨i, t⟩ by simp [wOut, hv]]
    simp [hv]
  ·rw [show many - i = 0 by omega]
   simp [placeL, hi]
theorem place_none {k n : Int} {r : List Int} {ks : List Tm} {cs : List Cs} (h : (wiL (.mk k n r ks cs)).findSome? wOut = none) : placeM (.mk k n r ks cs) = [] := by
 have := zP (manyM k ks.length) ks 0
 simp only [Nat.sub_zero, Nat.zero_add] at this
 unfold wiL at h
 rw [h] at this
 exact this
theorem place_some {k n : Int} {r : List Int} {ks : List Tm} {cs : List Cs} {z : Wi} (h : (wiL (.mk k n r ks cs)).findSome? wOut = some z) : placeM (.mk k n r ks cs) = z.i :: placeM z.t ∧ ks[z.i]? = some z.t ∧ valM z.t = false := by
 have := zP (manyM k ks.length) ks 0
 simp only [Nat.sub_zero, Nat.zero_add] at this
 unfold wiL at h
 rw [h] at this
 exact ⟨this.1, this.2.2⟩
theorem pathL_append (a b : List Nat) : pathL (a ++ b) = pathL a ++ pathL b := by simp [pathL]
theorem wi_mem {k n : Int} {r : List Int} {ks : List Tm} {cs : List Cs} {x : Wi} (h : x ∈ wiL (.mk k n r ks cs)) : x.t ∈ ks := by
 unfold wiL at h
 obtain ⟨i, hi, rfl⟩ := List.mem_mapIdx.1 h
 exact List.mem_of_mem_take (List.getElem_mem _)
theorem place_c (t0 : Tm) (hs0 : shT t0) (hN : tsize t0 < 2^30) : FCall Tryz.prog G 150 [.pu (tmc 0 t0)] (.pu (.sl 0 3 (pathL (placeM t0)))) := by
 have hpl := place_len t0
 refine FCall.of_tri tbl 19 Tryz.func150 rfl rfl rfl fun w0 M ρ0 D0 => ?_
 refine yR ?_;refine s_box SS 1 ?_;refine yB ?_;refine e_seqN [1] ?_;refine tQ ?_;refine Tri.scope ?_;refine yR ?_;refine s_alloc SS 3 ?_;refine e_seqN [3] ?_;refine tQ ?_;refine Tri.label ?_;refine tQ ?_;refine Tri.block (Tri.loopW (σ := {q : List Nat × Tm // q.1 ++ placeM q.2 = placeM t0 ∧ shT q.2 ∧ tsize q.2 ≤ tsize t0}) (fun i => ⟨[(1, .ptr 1 [] 32), (3, .ptr 3 [] 39)], [(1, .var 32 (.pu (tmc 0 i.1.2))), (3, .var 39 (.ow 0 3 (pathL i.1.1)))]⟩) (fun i => tsize i.1.2) ⟨([], t0), rfl, hs0, Nat.le_refl _⟩ ?_ ?_ (fun i => ?_))
 ·exact zW
 ·exact zW
 refine tQ ?_;refine Tri.block ?_
 obtain ⟨⟨acc, k, n, r, ks, cs⟩, hacc, hsh, hsz⟩ := i
 dsimp only at hacc hsh hsz ⊢
 have hsz' := hsz
 simp only [shT] at hsh
 simp only [tsize] at hsz'
 have hlen := length_tsizeL ks
 have hal := congrArg List.length hacc
 simp only [List.length_append] at hal
 refine Y6 ?_;refine s_call (worked_c k n r ks cs) ?_;refine e_seqN [812, 811] ?_;refine tQ ?_;refine Tri.block ?_;refine tQ ?_;refine Tri.overFunc 900 [811, 812, 1, 3, 900] [1, 3, 900] [(1, .ptr 1 [] 32), (3, .ptr 3 [] 39)] (worked1_c k n r ks cs (many_le hsh.1) (by omega) acc wOut) (by intro x _; rfl) (fun x hx r w0 M ρ0 D0 l => ?_) (fun hdone => ?_) (fun z hz => ?_)
 ·skip
  refine yR ?_;refine Y10 ?_;refine yR ?_;refine s_alloc SS 5 ?_;refine yS ?_;refine e_seqN [5] ?_
  refine ⟨rfl, ?_⟩
  have hxm := tsize_mem (wi_mem hx)
  refine tQ ?_;refine Tri.block ?_;refine Y6 ?_;refine s_val (v_callD (fun _ => value_c _ x.t (Nat.le_refl _) (by omega))) ?_;refine Y74 ?_;refine Tri.cond rfl (fun h0 => ?_) (fun h0 => ?_)
  ·skip
   have ho : wOut x = some x := by simp at h0; simp [wOut, h0]
   refine yR ?_;refine yK ?_;refine yM ?_;refine yZ ?_;refine s_app2 3 [] ?_ ?_
   ·simp [path_len]; omega
   refine yL ?_;refine yW ?_;refine yS ?_;refine e_draw ?_;refine Tri.exit ?_
   refine ⟨rfl, ?_, ?_⟩
   ·rw [ho]; rfl
   ·rw [ho]; exact .cons rfl (ObImp.refl _) (.cons rfl (by rw [pathL_append]; exact ObImp.refl _) .nil)
  ·skip
   have ho : wOut x = none := by simp at h0; simp [wOut, h0]
   refine Tri.skip ?_
   refine ⟨rfl, ?_, ?_⟩
   ·rw [ho]; rfl
   ·rw [ho]; exact .cons rfl (ObImp.refl _) (.cons rfl (ObImp.refl _) .nil)
 ·skip
  have hfin : placeM t0 = acc := by rw [← hacc, place_none hdone, List.append_nil]
  refine yR ?_;refine yK ?_;refine Y2 ?_;exact Tri.ret ⟨.inr rfl, ret1 rfl resV_tmp ((by rw [hfin]; exact ToPu.imp (by repeat constructor)))⟩
 ·skip
  obtain ⟨hp1, hp2, hp3⟩ := place_some hz
  have hzm := List.mem_of_getElem? hp2
  have hzs := tsize_mem hzm
  refine Tri.exit ?_
  refine ⟨⟨(acc ++ [z.i], z.t), by rw [← hacc, hp1]; simp, shL_mem hsh.2.2.1 _ hzm, by show tsize z.t ≤ tsize t0; omega⟩, by show tsize z.t < tsize (.mk k n r ks cs); simp only [tsize]; omega, le_of ?_ ?_⟩
  ·repeat (first | exact SubE.nil | refine SubE.cons rfl rfl ?_)
  ·repeat (first | exact SubH.nil | refine SubH.cons rfl rfl ?_)
end Go.Proofs.YtkcgkignhpepkaaGreatDoor

/- The place of work, with the terms on the way. -/
namespace Go.Proofs.YtkcgkignhpepkaaGreatDoor
open Go Hs
variable {G : List (Nat × TypeId × Pu)}
def walkM : Tm → List Nat → Tm
 | t, [] => t
 | t, i :: p => match t.kids[i]? with
  | some x => walkM x p
  | none => t
def wayM : Tm → List Nat → List Tm
 | t, [] => [t]
 | t, i :: p => t :: match t.kids[i]? with
  | some x => wayM x p
  | none => []
def okP : Tm → List Nat → Prop
 | _, [] => True
 | t, i :: p => ∃ x, t.kids[i]? = some x ∧ okP x p
theorem way_len : ∀ {t : Tm} {p : List Nat}, okP t p → (wayM t p).length = p.length + 1
 | t, [], _ => rfl
 | t, i :: p, ⟨x, hx, h⟩ => by simp [wayM, hx, way_len h]
theorem walk_snoc : ∀ {t : Tm} {p : List Nat} {i : Nat}, okP t p → i < p.length → ∃ x, (walkM t (p.take i)).kids[p[i]!]? = some x ∧ walkM t (p.take (i + 1)) = x ∧ wayM t (p.take (i + 1)) = wayM t (p.take i) ++ [x]
 | t, [], i, _, h => by simp at h
 | t, j :: p, 0, ⟨x, hx, h⟩, _ => ⟨x, by simp [walkM, hx], by simp [walkM, hx], by simp [wayM, hx]⟩
 | t, j :: p, i + 1, ⟨x, hx, h⟩, hi => by
  obtain ⟨y, h1, h2, h3⟩ := walk_snoc (i := i) h (by simpa using hi)
  exact ⟨y, by simpa [walkM, hx] using h1, by simpa [walkM, hx] using h2, by simp [wayM, hx, h3]⟩
theorem walk_size : ∀ {t : Tm} {p : List Nat}, tsize (walkM t p) ≤ tsize t
 | t, [] => by simp [walkM]
 | t, i :: p => by
  simp only [walkM]
  split
  ·rename_i x hx
   have := walk_size (t := x) (p := p)
   have h2 := tsize_mem (List.mem_of_getElem? hx)
   obtain ⟨k, n, r, ks, cs⟩ := t
   simp only [Tm.kids, tsize] at h2 ⊢
   omega
  ·omega
theorem way_le : ∀ (t : Tm) (p : List Nat), (wayM t p).length ≤ p.length + 1
 | t, [] => by simp [wayM]
 | t, i :: p => by
  simp only [wayM, List.length_cons]
  split
  ·have := way_le (by assumption) p; omega
  ·simp
mutual
theorem place_ok : ∀ {t : Tm}, shT t → okP t (placeM t)
 | .mk k n r ks cs, h => by
  simp only [shT] at h
  simp only [placeM]
  exact placeL_ok k n r ks cs ks 0 (fun j x hj => by simpa using hj) h.2.2.1
theorem placeL_ok (k n : Int) (r : List Int) (all : List Tm) (cs : List Cs) {many : Nat} : ∀ (ks : List Tm) (i : Nat), (∀ j x, ks[j]? = some x → all[i + j]? = some x) → shL ks → okP (.mk k n r all cs) (placeL many i ks)
 | [], i, _, _ => trivial
 | t :: ts, i, h, hs => by
  simp only [placeL]
  split
  ·split
   ·exact placeL_ok k n r all cs ts (i + 1) (fun j x hj => by
     have := h (j + 1) x (by simpa using hj)
     rwa [show i + (j + 1) = i + 1 + j by omega] at this) hs.2
   ·exact ⟨t, by simpa [Tm.kids] using h 0 t rfl, place_ok hs.1⟩
  ·trivial
end
theorem found_c (t0 : Tm) (hs0 : shT t0) (hN : tsize t0 < 2^30) : FCall Tryz.prog G 93 [.pu (tmc 0 t0)] (.pu (siteP (placeM t0) (wayM t0 (placeM t0)))) := by
 have hpl := place_len t0
 have hok := place_ok hs0
 refine FCall.of_tri tbl 31 Tryz.func93 rfl rfl rfl fun w0 M ρ0 D0 => ?_
 have hpc := place_c (G := G) t0 hs0 hN
 generalize hp : placeM t0 = p at hpl hok hpc ⊢
 refine yR ?_;refine s_box SS 1 ?_;refine s_alloc SS 2 ?_;refine e_seqN [1, 2] ?_;refine Y6 ?_;refine s_val (v_callD (fun _ => hpc)) ?_;refine yL ?_;refine yZ ?_;refine yP ?_;refine s_alloc SS 3 ?_;refine yS ?_;refine e_drawN [3] ?_;refine Y73 ?_;refine Tri.block (Tri.loopW (σ := Nat) (fun i => ⟨[(1, .ptr 1 [] 32), (2, .ptr 2 [] 147), (3, .ptr 3 [] 147), (12, .pu (.sl 0 3 (pathL p))), (13, iv .i64 (pathL p).length), (14, iv .i64 i)], [(1, .var 32 (.pu (tmc 0 (walkM t0 (p.take i))))), (2, .var 147 (.agg 147 [.nilc, .nilc])), (3, .var 147 (.agg 147 [.pu (.sl 0 3 (pathL p)), .ow 0 32 (tmsc 0 (wayM t0 (p.take i)))]))]⟩) (fun i => p.length - i) 0 ?_ ?_ (fun i => ?_))
 ·repeat (first | exact .nil | refine .cons rfl (by first | exact .refl | (focus ((repeat constructor); done)) | (exact .var (.agg (.cons .refl (.cons .xsOw .nil))))) ?_)
 ·repeat (first | exact .nil | refine .cons rfl (by first | exact .refl | (focus ((repeat constructor); done)) | (exact .var (.agg (.cons .refl (.cons .xsOw .nil))))) ?_)
 refine Y39 ?_;refine Tri.cond rfl (fun h0 => ?_) (fun h0 => ?_)
 ·skip
  have hi : i < p.length := by rw [path_len] at h0; simpa using h0
  obtain ⟨x, hx1, hx2, hx3⟩ := walk_snoc hok hi
  have hsz := walk_size (t := t0) (p := p.take i)
  have hpg := path_get hi
  rw [getElem!_pos p i hi] at hx1
  generalize p[i] = m at hx1 hpg
  have hwl : (wayM t0 (p.take i)).length ≤ i + 1 := by have := way_le t0 (p.take i); simp at this; omega
  generalize walkM t0 (p.take i) = t at hx1 hsz ⊢
  obtain ⟨k, n, r, ks, cs⟩ := t
  simp only [Tm.kids] at hx1
  have hxg : (tmsc 0 ks)[m]? = some (tmc 0 x) := by simp [tms_eq, hx1]
  refine Tri.skip ?_;refine tQ ?_;refine Tri.block ?_;refine yR ?_;refine s_val (v_index SS (h0 := by omega) (hp := hpg)) ?_;refine yL ?_;refine Y10 ?_;refine Y45 ?_;refine s_val (v_index SS (h0 := by omega) (hp := hxg)) ?_;refine yL ?_;refine Y16 ?_;refine Y14 ?_;refine yL ?_;refine yZ ?_;refine s_app2 3 [1] ?_ ?_
  ·simp [tms_length]; omega
  refine Y55 ?_;refine e_seq ?_;refine Y30 ?_
  refine ⟨i + 1, by omega, le_of ?_ ?_⟩
  ·repeat (first | exact SubE.nil | refine SubE.cons rfl (by first | rfl | (rw [wrap64 (by omega) (by omega)]; rfl) | (first | (rw [hx2]; done) | (rw [hx3, tms_eq, tms_eq, List.map_append]; rfl))) ?_)
  ·repeat (first | exact SubH.nil | refine SubH.cons rfl (by first | rfl | (rw [wrap64 (by omega) (by omega)]; rfl) | (first | (rw [hx2]; done) | (rw [hx3, tms_eq, tms_eq, List.map_append]; rfl))) ?_)
 ·skip
  have hi : p.length ≤ i := by rw [path_len] at h0; simpa using h0
  rw [List.take_of_length_le hi];refine Tri.exit ?_;refine Y64 ?_;exact Tri.ret ⟨.inr rfl, ret1 rfl resV_cell (ToPu.imp (by repeat constructor))⟩
end Go.Proofs.YtkcgkignhpepkaaGreatDoor

/- What each kind of step makes of the whole. -/
namespace Go.Proofs.YtkcgkignhpepkaaGreatDoor
open Go Hs
variable {G : List (Nat × TypeId × Pu)}
theorem way_get : ∀ {t : Tm} {p : List Nat} {i : Nat}, okP t p → i ≤ p.length → (wayM t p)[i]? = some (walkM t (p.take i))
 | t, [], 0, _, _ => by simp [wayM, walkM]
 | t, j :: p, 0, _, _ => by simp [wayM, walkM]
 | t, j :: p, i + 1, ⟨x, hx, h⟩, hi => by
  have := way_get (i := i) h (by simpa using hi)
  simpa [wayM, walkM, hx] using this
theorem walk_kid {t : Tm} {p : List Nat} {i : Nat} (h : okP t p) (hi : i < p.length) : (walkM t (p.take i)).kids[p[i]]? = some (walkM t (p.take (i + 1))) := by
 obtain ⟨x, h1, h2, _⟩ := walk_snoc h hi
 rw [getElem!_pos p i hi] at h1
 rw [h2, h1]
theorem way_kid {t : Tm} {p : List Nat} (h : okP t p) : ∀ i (hi : i < p.length), p[i] < ((wayM t p)[i]'(by rw [way_len h]; omega)).kids.length := fun i hi => by
 have h1 := way_get h (Nat.le_of_lt hi)
 have h2 := walk_kid h hi
 rw [List.getElem?_eq_getElem (by rw [way_len h]; omega)] at h1
 simp only [Option.some.injEq] at h1
 rw [h1];exact (List.getElem?_eq_some_iff.1 h2).1
theorem way_mem {t : Tm} {p : List Nat} (h : okP t p) : ∀ x ∈ wayM t p, tsize x ≤ tsize t := fun x hx => by
 obtain ⟨i, hi, rfl⟩ := List.getElem_of_mem hx
 have h1 := way_get h (i := i) (by rw [way_len h] at hi; omega)
 rw [List.getElem?_eq_getElem hi] at h1
 simp only [Option.some.injEq] at h1
 rw [h1];exact walk_size
theorem kids_le (t : Tm) : t.kids.length < tsize t := by
 obtain ⟨k, n, r, ks, cs⟩ := t
 have := length_tsizeL ks
 simp only [Tm.kids, tsize]; omega
theorem kid_size {t x : Tm} {i : Nat} (h : t.kids[i]? = some x) : tsize x < tsize t := by
 obtain ⟨k, n, r, ks, cs⟩ := t
 have := tsize_mem (List.mem_of_getElem? h)
 simp only [Tm.kids] at this
 simp only [tsize]; omega
theorem path_size {t : Tm} {p : List Nat} (h : okP t p) : p.length < tsize t := by
 induction p generalizing t with
 | nil => have := tsize_pos t; show 0 < tsize t; omega
 | cons i p ih =>
  obtain ⟨x, hx, h⟩ := h
  have := ih h
  have := kid_size hx
  simp; omega
theorem tsizeL_set : ∀ {ks : List Tm} {j : Nat} {x y : Tm}, ks[j]? = some y → tsizeL (ks.set j x) + tsize y = tsizeL ks + tsize x
 | [], j, x, y, h => by simp at h
 | t :: ts, 0, x, y, h => by simp at h; subst h; simp [tsizeL]; omega
 | t :: ts, j + 1, x, y, h => by
  have := tsizeL_set (ks := ts) (j := j) (x := x) (y := y) (by simpa using h)
  simp [tsizeL]; omega
theorem fill_size {t : Tm} {p : List Nat} (h : okP t p) (lo : Nat) : ∀ (hi : Nat) (x : Tm), hi ≤ p.length → tsize (fillM (wayM t p) p lo hi x) ≤ tsize t + tsize x
 | 0, x, _ => by simp [fillM]
 | n + 1, x, hn => by
  have key : ∀ (m : Nat) (y : Tm) (b : Nat), m ≤ p.length → tsize y + tsize (walkM t (p.take m)) ≤ b + tsize t + tsize (walkM t (p.take m)) → tsize y ≤ b + tsize (walkM t (p.take m)) → tsize (fillM (wayM t p) p lo m y) ≤ b + tsize t := by
   intro m
   induction m with
   | zero => intro y b _ _ h2; simpa [fillM, walkM] using h2
   | succ m ih =>
    intro y b hm h1 h2
    simp only [fillM]
    split
    ·omega
    ·have hmp : m < p.length := by omega
     have hk := walk_kid h hmp
     rw [way_get h (by omega), List.getElem?_eq_getElem hmp]
     simp only
     have hs : tsize (setKid (walkM t (p.take m)) p[m] y) + tsize (walkM t (p.take (m + 1))) = tsize (walkM t (p.take m)) + tsize y := by
      generalize walkM t (p.take m) = q at hk ⊢
      obtain ⟨k, n, r, ks, cs⟩ := q
      simp only [Tm.kids] at hk
      have := tsizeL_set (x := y) hk
      simp only [setKid, tsize]; omega
     have := walk_size (t := t) (p := p.take m)
     exact ih _ b (by omega) (by omega) (by omega)
  have h1 := walk_size (t := t) (p := p.take (n + 1))
  have := key (n + 1) x (tsize x) hn (by omega) (by omega)
  omega
theorem filled_c2 (path : List Nat) (way : List Tm) (lo : Nat) (x : Tm) (h2 : path.length ≤ way.length) (hp : ∀ i (h : i < path.length), path[i] < way[i].kids.length) (hw : ∀ t ∈ way, t.kids.length < 2^30) (hl : path.length < 2^30) (hlo : lo < 2^40) :
  FCall Tryz.prog G 153 [.pu (siteP path way), .pu (.leaf (.int .i64 lo)), .pu (.leaf (.int .i64 (pathL path).length)), .pu (tmc 0 x)] (.pu (tmc 0 (fillM way path lo path.length x))) := by
 rw [path_len]; exact filled_c path way lo path.length x (Nat.le_refl _) h2 hp hw hl hlo
theorem byApp_c (t f x b : Tm) (h0 : t.kids[0]? = some f) (h1 : t.kids[1]? = some x) (h2 : f.kids[0]? = some b) (hN : tsize t < 2^30) : FCallN Tryz.prog G 155 [.pu (tmc 0 t)] (fun m => .pu (tmc m (putM [x] 0 b))) := by
 have s0 := kid_size h0
 have s1 := kid_size h1
 have s2 := kid_size h2
 obtain ⟨k, n, r, ks, cs⟩ := t
 obtain ⟨k', n', r', ks', cs'⟩ := f
 simp only [Tm.kids] at h0 h1 h2
 have g0 : (tmsc 0 ks)[0]? = some (tmc 0 (.mk k' n' r' ks' cs')) := by simp [tms_eq, h0]
 have g1 : (tmsc 0 ks)[1]? = some (tmc 0 x) := by simp [tms_eq, h1]
 have g2 : (tmsc 0 ks')[0]? = some (tmc 0 b) := by simp [tms_eq, h2]
 refine FCallN.of_tri tbl 16 Tryz.func155 rfl rfl (fun _ => rfl) fun w0 M ρ0 D0 hM => ?_
 refine yR ?_;refine s_box SS 1 ?_;refine s_alloc SS 2 ?_;refine e_seqN [1, 2] ?_;refine Y14 ?_;refine s_val (v_index SS (h0 := by omega) (hp := g0)) ?_;refine Y7 ?_;refine s_val (v_index SS (h0 := by omega) (hp := g2)) ?_;refine yL ?_;refine Y7 ?_;refine s_val (v_index SS (h0 := by omega) (hp := g1)) ?_;refine yL ?_;refine yZ ?_;refine s_val (v_callN (fun m n h => (tmc_low h _).imp) (fun _ => put_c [x] (by simp) (fun v hv => by simp at hv; subst hv; omega) b (by omega))) ?_;refine yS ?_;refine Y38 ?_;exact Tri.ret ⟨.inr rfl, ret1 rfl resV_cell (ToPu.imp (by repeat constructor))⟩
theorem byLet_c (t x b : Tm) (h0 : t.kids[0]? = some x) (h1 : t.kids[1]? = some b) (hN : tsize t < 2^30) : FCallN Tryz.prog G 157 [.pu (tmc 0 t)] (fun m => .pu (tmc m (putM [x] 0 b))) := by
 have s0 := kid_size h0
 have s1 := kid_size h1
 obtain ⟨k, n, r, ks, cs⟩ := t
 simp only [Tm.kids] at h0 h1
 have g0 : (tmsc 0 ks)[0]? = some (tmc 0 x) := by simp [tms_eq, h0]
 have g1 : (tmsc 0 ks)[1]? = some (tmc 0 b) := by simp [tms_eq, h1]
 refine FCallN.of_tri tbl 13 Tryz.func157 rfl rfl (fun _ => rfl) fun w0 M ρ0 D0 hM => ?_
 refine yR ?_;refine s_box SS 1 ?_;refine s_alloc SS 2 ?_;refine e_seqN [1, 2] ?_;refine Y14 ?_;refine s_val (v_index SS (h0 := by omega) (hp := g1)) ?_;refine yL ?_;refine Y7 ?_;refine s_val (v_index SS (h0 := by omega) (hp := g0)) ?_;refine yL ?_;refine yZ ?_;refine s_val (v_callN (fun m n h => (tmc_low h _).imp) (fun _ => put_c [x] (by simp) (fun v hv => by simp at hv; subst hv; omega) b (by omega))) ?_;refine yS ?_;refine Y38 ?_;exact Tri.ret ⟨.inr rfl, ret1 rfl resV_cell (ToPu.imp (by repeat constructor))⟩
theorem byRet_c (t x b : Tm) (h0 : t.kids[0]? = some x) (h1 : t.kids[1]? = some b) (hN : tsize t < 2^30) : FCallN Tryz.prog G 162 [.pu (tmc 0 t)] (fun m => .pu (tmc m (putM [x] 0 b))) := by
 have s0 := kid_size h0
 have s1 := kid_size h1
 obtain ⟨k, n, r, ks, cs⟩ := t
 simp only [Tm.kids] at h0 h1
 have g0 : (tmsc 0 ks)[0]? = some (tmc 0 x) := by simp [tms_eq, h0]
 have g1 : (tmsc 0 ks)[1]? = some (tmc 0 b) := by simp [tms_eq, h1]
 refine FCallN.of_tri tbl 13 Tryz.func162 rfl rfl (fun _ => rfl) fun w0 M ρ0 D0 hM => ?_
 refine yR ?_;refine s_box SS 1 ?_;refine s_alloc SS 2 ?_;refine e_seqN [1, 2] ?_;refine Y14 ?_;refine s_val (v_index SS (h0 := by omega) (hp := g1)) ?_;refine yL ?_;refine Y7 ?_;refine s_val (v_index SS (h0 := by omega) (hp := g0)) ?_;refine yL ?_;refine yZ ?_;refine s_val (v_callN (fun m n h => (tmc_low h _).imp) (fun _ => put_c [x] (by simp) (fun v hv => by simp at hv; subst hv; omega) b (by omega))) ?_;refine yS ?_;refine Y38 ?_;exact Tri.ret ⟨.inr rfl, ret1 rfl resV_cell (ToPu.imp (by repeat constructor))⟩
def varM : Tm := .mk 1 0 Z32 [] []
def backM (t0 : Tm) (p : List Nat) (n : Nat) : Tm := .mk 3 0 Z32 [fillM (wayM t0 p) p n p.length varM] []
theorem do_c (t0 : Tm) (p : List Nat) (hok : okP t0 p) (hN : tsize t0 < 2^28) (n : Nat) (a b : Tm) (hn : handM (wayM t0 p) (walkM t0 p).ref p.length = (n : Int)) (hnp : n < p.length) (hnum : 0 ≤ (walkM t0 p).num ∧ (walkM t0 p).num < 2^20)
  (ha : (walkM t0 p).kids[0]? = some a) (hb : (walkM t0 (p.take n)).kids[(2 + (walkM t0 p).num).toNat]? = some b) :
  FCall Tryz.prog G 161 [.pu (siteP p (wayM t0 p))] (.pu (tmc 0 (fillM (wayM t0 p) p 0 n (putM [a, backM t0 p n] 0 b)))) := by
 have hpl := path_size hok
 have hwl := way_len hok
 have hat := at_c (G := G) p (wayM t0 p) (by omega)
 have hwg := way_get hok (Nat.le_refl p.length)
 rw [List.take_length, List.getElem?_eq_getElem (by omega)] at hwg
 simp only [Option.some.injEq] at hwg
 rw [hwg] at hat
 have hwn := way_get hok (Nat.le_of_lt hnp)
 have hsz := walk_size (t := t0) (p := p)
 have hszn := walk_size (t := t0) (p := p.take n)
 have hfb := fill_size hok n p.length varM (Nat.le_refl _)
 have hkw : ∀ t ∈ wayM t0 p, t.kids.length < 2^30 := fun t ht => by have := way_mem hok t ht; have := kids_le t; omega
 have sa := kid_size ha
 have sb := kid_size hb
 generalize hw : walkM t0 p = w at hn hnum ha hb hat hsz sa
 obtain ⟨k, num, r, ks, cs⟩ := w
 simp only [Tm.num, Tm.ref, Tm.kids] at hn hnum ha hb
 generalize hv : walkM t0 (p.take n) = v at hb hwn hszn sb
 obtain ⟨k', num', r', ks', cs'⟩ := v
 simp only [Tm.kids] at hb
 have hsv : tsize varM = 1 := by simp [varM, tsize, tsizeL, csizeL]
 have ga : (tmsc 0 ks)[0]? = some (tmc 0 a) := by simp [tms_eq, ha]
 have gb : (tmsc 0 ks')[(2 + num).toNat]? = some (tmc 0 b) := by simp [tms_eq, hb]
 have gw : (tmsc 0 (wayM t0 p))[((n : Int)).toNat]? = some (tmc 0 (.mk k' num' r' ks' cs')) := by simp [tms_eq, hwn]
 have hsb : tsize (backM t0 p n) < 2^30 := by simp only [backM, tsize, tsizeL, csizeL]; omega
 refine FCall.of_tri tbl 45 Tryz.func161 rfl rfl rfl fun w0 M ρ0 D0 => ?_
 refine yR ?_;refine s_box SS 1 ?_;refine s_alloc SS 2 ?_;refine e_seqN [1, 2] ?_;refine Y6 ?_;refine s_val (v_callD (fun _ => hat)) ?_;refine s_alloc SS 3 ?_;refine yS ?_;refine e_seqN [3] ?_;refine Y6 ?_;refine Y49 ?_;refine yP ?_;refine s_val (v_callD (fun _ => handler_c p (wayM t0 p) r num (by omega) (by omega))) ?_;refine Y10 ?_;rw [hn];refine Y54 ?_;refine Y7 ?_;refine yC ?_;refine yP ?_;refine s_val (v_callD (fun _ => filled_c2 p (wayM t0 p) n varM (by omega) (fun i hi => way_kid hok i hi) hkw (by omega) (by omega))) ?_;refine yZ ?_;refine yP ?_;refine s_alloc SS 5 ?_;refine yS ?_;refine e_seqN [5] ?_;refine Y54 ?_;refine Y46 ?_;refine s_val (v_index SS (h0 := by omega) (hp := gw)) ?_;refine Y7 ?_;refine Y40 ?_
 refine s_val (v_index SS (h0 := by rw [wrap64 (by omega) (by omega)]; omega) (hp := by rw [wrap64 (by omega) (by omega)]; exact gb)) ?_;refine yL ?_;refine Y7 ?_;refine s_val (v_index SS (h0 := by omega) (hp := ga)) ?_;refine Y68 ?_;refine s_sl SS (ps := [tmc 0 a, tmc 0 (backM t0 p n)]) ?_;refine s_val (v_callD (fun _ => (put_c [a, backM t0 p n] (by simp) (fun v hv => by simp at hv; rcases hv with rfl | rfl <;> omega) b (by omega)).at (u := .pu (tmc 0 (putM [a, backM t0 p n] 0 b))) (fun m => (tmc_low (Nat.zero_le m) _).imp))) ?_;refine s_val (v_callD (fun _ => filled_c p (wayM t0 p) 0 n (putM [a, backM t0 p n] 0 b) (by omega) (by omega) (fun i hi => way_kid hok i (by omega)) hkw (by omega) (by omega))) ?_;refine yS ?_;refine Y38 ?_;exact Tri.ret ⟨.inr rfl, ret1 rfl resV_cell (ToPu.imp (by repeat constructor))⟩
def hereM (t0 : Tm) (p : List Nat) (y : Tm) : Tm := fillM (wayM t0 p) p 0 p.length y
theorem here831_c (f : FuncId) (he : entersB Tryz.prog f = true) (t0 : Tm) (p : List Nat) (hok : okP t0 p) (hN : tsize t0 < 2^28) (y : Tm) (h : FCall Tryz.prog G f [.pu (tmc 0 (walkM t0 p))] (.pu (tmc 0 y))) :
  HCall Tryz.prog G 152 [.pu (siteP p (wayM t0 p)), .ptr 831 [] 36] [(831, .var 36 (fV f))] [] (.pu (tmc 0 (hereM t0 p y))) [] [] := by
 have hpl := path_size hok
 have hwl := way_len hok
 have hat := at_c (G := G) p (wayM t0 p) (by omega)
 have hwg := way_get hok (Nat.le_refl p.length)
 rw [List.take_length, List.getElem?_eq_getElem (by omega)] at hwg
 simp only [Option.some.injEq] at hwg
 rw [hwg] at hat
 have hkw : ∀ t ∈ wayM t0 p, t.kids.length < 2^30 := fun t ht => by have := way_mem hok t ht; have := kids_le t; omega
 refine HCall.of_triD tbl 13 [] Tryz.func152 rfl rfl rfl fun w0 M ρ0 D0 => ?_
 refine yR ?_;refine s_box SS 2 ?_;refine s_alloc SS 3 ?_;refine e_seqN [2, 3] ?_;refine Y6 ?_;refine Y7 ?_;refine yC ?_;refine Y68 ?_;refine s_val (v_callD (fun _ => hat)) ?_;refine s_val (v_callO (fun _ => h) (he := he)) ?_;refine s_val (v_callD (fun _ => filled_c2 p (wayM t0 p) 0 y (by omega) (fun i hi => way_kid hok i hi) hkw (by omega) (by omega))) ?_;refine yS ?_;refine Y38 ?_;exact Tri.ret ⟨.inr rfl, ret1 rfl resV_cell (VImp.refl _), zO⟩
theorem here832_c (f : FuncId) (he : entersB Tryz.prog f = true) (t0 : Tm) (p : List Nat) (hok : okP t0 p) (hN : tsize t0 < 2^28) (y : Tm) (h : FCall Tryz.prog G f [.pu (tmc 0 (walkM t0 p))] (.pu (tmc 0 y))) :
  HCall Tryz.prog G 152 [.pu (siteP p (wayM t0 p)), .ptr 832 [] 36] [(832, .var 36 (fV f))] [] (.pu (tmc 0 (hereM t0 p y))) [] [] := by
 have hpl := path_size hok
 have hwl := way_len hok
 have hat := at_c (G := G) p (wayM t0 p) (by omega)
 have hwg := way_get hok (Nat.le_refl p.length)
 rw [List.take_length, List.getElem?_eq_getElem (by omega)] at hwg
 simp only [Option.some.injEq] at hwg
 rw [hwg] at hat
 have hkw : ∀ t ∈ wayM t0 p, t.kids.length < 2^30 := fun t ht => by have := way_mem hok t ht; have := kids_le t; omega
 refine HCall.of_triD tbl 13 [] Tryz.func152 rfl rfl rfl fun w0 M ρ0 D0 => ?_
 refine yR ?_;refine s_box SS 2 ?_;refine s_alloc SS 3 ?_;refine e_seqN [2, 3] ?_;refine Y6 ?_;refine Y7 ?_;refine yC ?_;refine Y68 ?_;refine s_val (v_callD (fun _ => hat)) ?_;refine s_val (v_callO (fun _ => h) (he := he)) ?_;refine s_val (v_callD (fun _ => filled_c2 p (wayM t0 p) 0 y (by omega) (fun i hi => way_kid hok i hi) hkw (by omega) (by omega))) ?_;refine yS ?_;refine Y38 ?_;exact Tri.ret ⟨.inr rfl, ret1 rfl resV_cell (VImp.refl _), zO⟩
theorem here834_c (f : FuncId) (he : entersB Tryz.prog f = true) (t0 : Tm) (p : List Nat) (hok : okP t0 p) (hN : tsize t0 < 2^28) (y : Tm) (h : FCall Tryz.prog G f [.pu (tmc 0 (walkM t0 p))] (.pu (tmc 0 y))) :
  HCall Tryz.prog G 152 [.pu (siteP p (wayM t0 p)), .ptr 834 [] 36] [(834, .var 36 (fV f))] [] (.pu (tmc 0 (hereM t0 p y))) [] [] := by
 have hpl := path_size hok
 have hwl := way_len hok
 have hat := at_c (G := G) p (wayM t0 p) (by omega)
 have hwg := way_get hok (Nat.le_refl p.length)
 rw [List.take_length, List.getElem?_eq_getElem (by omega)] at hwg
 simp only [Option.some.injEq] at hwg
 rw [hwg] at hat
 have hkw : ∀ t ∈ wayM t0 p, t.kids.length < 2^30 := fun t ht => by have := way_mem hok t ht; have := kids_le t; omega
 refine HCall.of_triD tbl 13 [] Tryz.func152 rfl rfl rfl fun w0 M ρ0 D0 => ?_
 refine yR ?_;refine s_box SS 2 ?_;refine s_alloc SS 3 ?_;refine e_seqN [2, 3] ?_;refine Y6 ?_;refine Y7 ?_;refine yC ?_;refine Y68 ?_;refine s_val (v_callD (fun _ => hat)) ?_;refine s_val (v_callO (fun _ => h) (he := he)) ?_;refine s_val (v_callD (fun _ => filled_c2 p (wayM t0 p) 0 y (by omega) (fun i hi => way_kid hok i hi) hkw (by omega) (by omega))) ?_;refine yS ?_;refine Y38 ?_;exact Tri.ret ⟨.inr rfl, ret1 rfl resV_cell (VImp.refl _), zO⟩
theorem here835_c (f : FuncId) (he : entersB Tryz.prog f = true) (t0 : Tm) (p : List Nat) (hok : okP t0 p) (hN : tsize t0 < 2^28) (y : Tm) (h : FCall Tryz.prog G f [.pu (tmc 0 (walkM t0 p))] (.pu (tmc 0 y))) :
  HCall Tryz.prog G 152 [.pu (siteP p (wayM t0 p)), .ptr 835 [] 36] [(835, .var 36 (fV f))] [] (.pu (tmc 0 (hereM t0 p y))) [] [] := by
 have hpl := path_size hok
 have hwl := way_len hok
 have hat := at_c (G := G) p (wayM t0 p) (by omega)
 have hwg := way_get hok (Nat.le_refl p.length)
 rw [List.take_length, List.getElem?_eq_getElem (by omega)] at hwg
 simp only [Option.some.injEq] at hwg
 rw [hwg] at hat
 have hkw : ∀ t ∈ wayM t0 p, t.kids.length < 2^30 := fun t ht => by have := way_mem hok t ht; have := kids_le t; omega
 refine HCall.of_triD tbl 13 [] Tryz.func152 rfl rfl rfl fun w0 M ρ0 D0 => ?_
 refine yR ?_;refine s_box SS 2 ?_;refine s_alloc SS 3 ?_;refine e_seqN [2, 3] ?_;refine Y6 ?_;refine Y7 ?_;refine yC ?_;refine Y68 ?_;refine s_val (v_callD (fun _ => hat)) ?_;refine s_val (v_callO (fun _ => h) (he := he)) ?_;refine s_val (v_callD (fun _ => filled_c2 p (wayM t0 p) 0 y (by omega) (fun i hi => way_kid hok i hi) hkw (by omega) (by omega))) ?_;refine yS ?_;refine Y38 ?_;exact Tri.ret ⟨.inr rfl, ret1 rfl resV_cell (VImp.refl _), zO⟩
theorem here836_c (f : FuncId) (he : entersB Tryz.prog f = true) (t0 : Tm) (p : List Nat) (hok : okP t0 p) (hN : tsize t0 < 2^28) (y : Tm) (h : FCall Tryz.prog G f [.pu (tmc 0 (walkM t0 p))] (.pu (tmc 0 y))) :
  HCall Tryz.prog G 152 [.pu (siteP p (wayM t0 p)), .ptr 836 [] 36] [(836, .var 36 (fV f))] [] (.pu (tmc 0 (hereM t0 p y))) [] [] := by
 have hpl := path_size hok
 have hwl := way_len hok
 have hat := at_c (G := G) p (wayM t0 p) (by omega)
 have hwg := way_get hok (Nat.le_refl p.length)
 rw [List.take_length, List.getElem?_eq_getElem (by omega)] at hwg
 simp only [Option.some.injEq] at hwg
 rw [hwg] at hat
 have hkw : ∀ t ∈ wayM t0 p, t.kids.length < 2^30 := fun t ht => by have := way_mem hok t ht; have := kids_le t; omega
 refine HCall.of_triD tbl 13 [] Tryz.func152 rfl rfl rfl fun w0 M ρ0 D0 => ?_
 refine yR ?_;refine s_box SS 2 ?_;refine s_alloc SS 3 ?_;refine e_seqN [2, 3] ?_;refine Y6 ?_;refine Y7 ?_;refine yC ?_;refine Y68 ?_;refine s_val (v_callD (fun _ => hat)) ?_;refine s_val (v_callO (fun _ => h) (he := he)) ?_;refine s_val (v_callD (fun _ => filled_c2 p (wayM t0 p) 0 y (by omega) (fun i hi => way_kid hok i hi) hkw (by omega) (by omega))) ?_;refine yS ?_;refine Y38 ?_;exact Tri.ret ⟨.inr rfl, ret1 rfl resV_cell (VImp.refl _), zO⟩
end Go.Proofs.YtkcgkignhpepkaaGreatDoor

/- A world at work. -/
namespace Go.Proofs.YtkcgkignhpepkaaGreatDoor
open Go Hs
variable {G : List (Nat × TypeId × Pu)}
abbrev hereV (l : Nat) : PV := .fn (.func 152) [] [.ptr l [] 36]
abbrev defV : PV := .fn (.func 158) [] [.ptr 823 [] 149]
def bodL (ts : List KT) : List (List Int × PV) := ts.map fun x => (x.1, .pu (tmc 0 x.2))
instance {V : TypeId} {ts : List KT} : NoLab (.map 28 V (mapE (bodL ts))) := inferInstanceAs (NoLab (.map 28 V (mapE (ts.map fun x => (x.1, .pu (tmc 0 x.2))))))
theorem bodL_take {ts : List KT} {i : Nat} (h : i < ts.length) : bodL (ts.take (i + 1)) = bodL (ts.take i) ++ [(ts[i].1, .pu (tmc 0 ts[i].2))] := by
 unfold bodL
 rw [List.take_succ_eq_append_getElem h, List.map_append]; rfl
theorem bod_len {ts : List KT} (h : ∀ x ∈ ts, x.1.length = 32) : ∀ x ∈ bodL ts, x.1.length = 32 := by
 intro x hx
 obtain ⟨y, hy, rfl⟩ := List.mem_map.1 hx
 exact h y hy
def bodM (s : List Int) : List KT → Option Tm
 | [] => none
 | x :: l => if s = x.1 then some x.2 else bodM s l
theorem look_bod {s : List Int} : ∀ {ts : List KT}, lookS s (bodL ts) = (bodM s ts).map fun t => .pu (tmc 0 t)
 | [] => rfl
 | x :: ts => by
  have ih := look_bod (s := s) (ts := ts)
  unfold bodL at ih ⊢
  simp only [List.map_cons, lookS, bodM, ih]
  split <;> rfl
theorem bod_none {s : List Int} : ∀ {ts : List KT}, s ∉ ts.map (·.1) → bodM s ts = none
 | [], _ => rfl
 | x :: ts, h => by
  simp only [List.map_cons, List.mem_cons, not_or] at h
  simp only [bodM, if_neg h.1]
  exact bod_none h.2
abbrev nilF : PV := .pu (.leaf .nilFunc)
abbrev runO (a b : Pu) (ts : List KT) (fs : List PV) : Ob := .var 181 (.agg 181 [.pu (wdP a b ts), .mp 822 28 32, .agg 179 fs])
abbrev ruO (a b : Pu) (ts : List KT) : List (Nat × Ob) := [(820, runO a b ts [nilF, hereV 831, hereV 832, hereV 833, hereV 834, hereV 835, fV 161, hereV 836]), (822, .map 28 32 (mapE (bodL ts))), (823, .var 149 (.ptr 820 [] 181)),
 (831, .var 36 (fV 155)), (832, .var 36 (fV 157)), (833, .var 36 defV), (834, .var 36 (fV 159)), (835, .var 36 (fV 160)), (836, .var 36 (fV 162))]
theorem open831_c : HCall Tryz.prog G 151 [fV 155] [] [] (hereV 831) [(831, .var 36 (fV 155))] [831] := by
 refine HCall.of_triD tbl 4 [] Tryz.func151 rfl rfl rfl fun w0 M ρ0 D0 => ?_
 refine yR ?_;refine s_box SS 831 ?_;refine yB ?_;refine e_seqN [831] ?_;refine yR ?_;refine s_val (v_mkFnD SS) ?_;refine Y2 ?_;exact Tri.ret ⟨.inr rfl, ret1 rfl resV_tmp (VImp.refl _), zO⟩
theorem open832_c : HCall Tryz.prog G 151 [fV 157] [] [] (hereV 832) [(832, .var 36 (fV 157))] [832] := by
 refine HCall.of_triD tbl 4 [] Tryz.func151 rfl rfl rfl fun w0 M ρ0 D0 => ?_
 refine yR ?_;refine s_box SS 832 ?_;refine yB ?_;refine e_seqN [832] ?_;refine yR ?_;refine s_val (v_mkFnD SS) ?_;refine Y2 ?_;exact Tri.ret ⟨.inr rfl, ret1 rfl resV_tmp (VImp.refl _), zO⟩
theorem open834_c : HCall Tryz.prog G 151 [fV 159] [] [] (hereV 834) [(834, .var 36 (fV 159))] [834] := by
 refine HCall.of_triD tbl 4 [] Tryz.func151 rfl rfl rfl fun w0 M ρ0 D0 => ?_
 refine yR ?_;refine s_box SS 834 ?_;refine yB ?_;refine e_seqN [834] ?_;refine yR ?_;refine s_val (v_mkFnD SS) ?_;refine Y2 ?_;exact Tri.ret ⟨.inr rfl, ret1 rfl resV_tmp (VImp.refl _), zO⟩
theorem open835_c : HCall Tryz.prog G 151 [fV 160] [] [] (hereV 835) [(835, .var 36 (fV 160))] [835] := by
 refine HCall.of_triD tbl 4 [] Tryz.func151 rfl rfl rfl fun w0 M ρ0 D0 => ?_
 refine yR ?_;refine s_box SS 835 ?_;refine yB ?_;refine e_seqN [835] ?_;refine yR ?_;refine s_val (v_mkFnD SS) ?_;refine Y2 ?_;exact Tri.ret ⟨.inr rfl, ret1 rfl resV_tmp (VImp.refl _), zO⟩
theorem open836_c : HCall Tryz.prog G 151 [fV 162] [] [] (hereV 836) [(836, .var 36 (fV 162))] [836] := by
 refine HCall.of_triD tbl 4 [] Tryz.func151 rfl rfl rfl fun w0 M ρ0 D0 => ?_
 refine yR ?_;refine s_box SS 836 ?_;refine yB ?_;refine e_seqN [836] ?_;refine yR ?_;refine s_val (v_mkFnD SS) ?_;refine Y2 ?_;exact Tri.ret ⟨.inr rfl, ret1 rfl resV_tmp (VImp.refl _), zO⟩
theorem open833_c : HCall Tryz.prog G 151 [defV] [] [] (hereV 833) [(833, .var 36 defV)] [833] := by
 refine HCall.of_triD tbl 4 [823] Tryz.func151 rfl rfl rfl fun w0 M ρ0 D0 => ?_
 refine yR ?_;refine s_box SS 833 ?_;refine yB ?_;refine e_seqN [833] ?_;refine yR ?_;refine s_val (v_mkFnD SS) ?_;refine Y2 ?_;exact Tri.ret ⟨.inr rfl, ret1 rfl resV_tmp (VImp.refl _), zO⟩
set_option maxHeartbeats 1000000 in
theorem opened_c (a b : Pu) (ts : List KT) (hnd : (ts.map (·.1)).Nodup) (hl : ts.length < 2^40) : HCall Tryz.prog G 94 [.pu (wdP a b ts)] [] [] (.ptr 820 [] 181) (ruO a b ts) [822, 820, 823, 831, 832, 833, 834, 835, 836] := by
 refine HCall.of_triE tbl 48 [] Tryz.func94 rfl rfl rfl rfl rfl (by repeat (first | exact .nil | refine .cons rfl rfl ?_ | refine .cons rfl noLabs ?_)) rfl fun w0 M ρ0 D0 => ?_
 refine Tri.fact (i := 0) rfl (fun D w x h => wd_wf h) (fun hr => ?_);refine yR ?_;refine s_box SS 1 ?_;refine yB ?_;refine e_seqN [1] ?_;refine Y6 ?_;refine s_makeMap 822 ?_;refine yP ?_;refine s_box SS 820 ?_;refine s_alloc SS 823 ?_;refine yS ?_;refine e_seqN [822, 820, 823] ?_;refine Y57 ?_;refine yF ?_;refine Y7 ?_;refine Y36 ?_;refine Tri.block (Tri.loopW (σ := Nat) (fun i => ⟨[(3, .ptr 823 [] 149), (15, .pu (.sl 0 116 (ts.map ktP))), (16, iv .i64 (ts.map ktP).length), (17, iv .i64 i)], [(820, .var 181 (.agg 181 [.pu (wdP a b ts), .mp 822 28 32, .pu (.agg 179 (List.replicate 8 (.leaf .nilFunc)))])), (822, .map 28 32 (mapE (bodL (ts.take i)))), (823, .var 149 (.ptr 820 [] 181))]⟩) (fun i => ts.length - i) 0 ?_ ?_ (fun i => ?_))
 ·exact zW
 ·exact zW
 refine Y39 ?_;refine Tri.cond rfl (fun h0 => ?_) (fun h0 => ?_)
 ·skip
  have hi : i < ts.length := by simpa using h0
  have hr1 := hr _ (List.getElem_mem hi)
  have hr2 := bod_len (fun x hx => hr x (List.mem_of_mem_take hx)) (ts := ts.take i)
  have hdup := nodup_take (l := ts.map (·.1)) (i := i) (by simpa using hi)
  rw [List.map_take.symm, List.map_take.symm, List.getElem_map] at hdup
  have hnew : ts[i].1 ∉ (ts.take i).map (·.1) := (hdup.1 (by rw [List.map_take]; exact hnd.sublist (List.take_sublist _ _))).2
  have hnone : lookS ts[i].1 (bodL (ts.take i)) = none := by rw [look_bod, bod_none hnew]; rfl
  refine Tri.skip ?_;refine tQ ?_;refine Tri.block ?_;refine yR ?_;refine s_val (v_index SS (h0 := by omega) (hp := kt_get hi)) ?_;refine yL ?_;refine s_alloc SS 5 ?_;refine yS ?_;refine e_seqN [5] ?_;refine Y57 ?_;refine Y49 ?_;refine Y4 ?_;refine step_insert SS (u := .pu (tmc 0 ts[i].2)) rfl rfl rfl rfl (VImp.refl _) rfl (VImp.refl _) rfl (mapE_ty _) (sum_cond _ [] ).2.2.1 (findE_none hr1 hr2 hnone) (labs := []) (fun l' h => by rw [NoLab.ok] at h; exact h) ?_;refine e_draw ?_;refine Y30 ?_
  refine ⟨i + 1, by omega, le_of ?_ ?_⟩
  ·repeat (first | exact SubE.nil | refine SubE.cons rfl (by first | rfl | (rw [wrap64 (by omega) (by omega)]; rfl) | (simp only [bodL_take hi, mapE_append])) ?_)
  ·repeat (first | exact SubH.nil | refine SubH.cons rfl (by first | rfl | (rw [wrap64 (by omega) (by omega)]; rfl) | (simp only [bodL_take hi, mapE_append])) ?_)
 ·skip
  have hi : ts.length ≤ i := by simpa using h0
  rw [List.take_of_length_le hi];refine Tri.exit ?_;refine Y19 ?_;refine Y54 ?_;refine s_call (open831_c) ?_;refine yM ?_;refine s_call (open832_c) ?_;refine yM ?_;refine s_val (v_mkFnD SS) ?_;refine s_call (open833_c) ?_;refine yM ?_;refine s_call (open834_c) ?_;refine yM ?_;refine s_call (open835_c) ?_;refine yM ?_;refine s_call (open836_c) ?_;refine yP ?_;refine yY ?_;refine yF ?_;refine yS ?_;refine e_drawN [831, 832, 833, 834, 835, 836] ?_;refine Y6 ?_;refine Y2 ?_;exact Tri.ret ⟨.inr rfl, ret1 rfl resV_tmp (VImp.refl _), zO⟩
end Go.Proofs.YtkcgkignhpepkaaGreatDoor

/- The kind of a step; what a Def becomes. -/
namespace Go.Proofs.YtkcgkignhpepkaaGreatDoor
open Go Hs
variable {G : List (Nat × TypeId × Pu)}
theorem byDef_c (a b : Pu) (ts : List KT) (hts : ∀ x ∈ ts, x.1.length = 32) (t y : Tm) (hy : bodM t.ref ts = some y) : HCall Tryz.prog G 158 [.pu (tmc 0 t), .ptr 823 [] 149] (ruO a b ts) [] (.pu (tmc 0 y)) [] [] := by
 obtain ⟨k, n, r, ks, cs⟩ := t
 simp only [Tm.ref] at hy
 refine HCall.of_triD tbl 11 [] Tryz.func158 rfl rfl rfl fun w0 M ρ0 D0 => ?_
 refine Tri.fact (i := 0) rfl (fun D w x h => tm_wf h) (fun hr => ?_)
 have hget : mapGet Tryz.prog SS 28 32 (refP r) (mapE (bodL ts)) = some (.pu (tmc 0 y), true) := mapGet_some hr.1 (bod_len hts) (by rw [look_bod, hy]; rfl)
 refine yR ?_;refine s_box SS 2 ?_;refine s_alloc SS 3 ?_;refine e_seqN [2, 3] ?_;refine Y57 ?_;refine Y49 ?_;refine s_val (v_lookup SS rfl rfl rfl (VImp.refl _) (mapE_ty _) (sum_cond _ []).2.2.1 hget) ?_;refine yS ?_;refine Y38 ?_;exact Tri.ret ⟨.inr rfl, ret1 rfl resV_cell (VImp.refl _), zO⟩
theorem here833_c (a b : Pu) (ts : List KT) (hts : ∀ x ∈ ts, x.1.length = 32) (t0 : Tm) (p : List Nat) (hok : okP t0 p) (hN : tsize t0 < 2^28) (y : Tm) (hy : bodM (walkM t0 p).ref ts = some y) :
  HCall Tryz.prog G 152 [.pu (siteP p (wayM t0 p)), .ptr 833 [] 36] (ruO a b ts) [] (.pu (tmc 0 (hereM t0 p y))) [] [] := by
 have hpl := path_size hok
 have hwl := way_len hok
 have hat := at_c (G := G) p (wayM t0 p) (by omega)
 have hwg := way_get hok (Nat.le_refl p.length)
 rw [List.take_length, List.getElem?_eq_getElem (by omega)] at hwg
 simp only [Option.some.injEq] at hwg
 rw [hwg] at hat
 have hkw : ∀ t ∈ wayM t0 p, t.kids.length < 2^30 := fun t ht => by have := way_mem hok t ht; have := kids_le t; omega
 refine HCall.of_triD tbl 13 [] Tryz.func152 rfl rfl rfl fun w0 M ρ0 D0 => ?_
 refine yR ?_;refine s_box SS 2 ?_;refine s_alloc SS 3 ?_;refine e_seqN [2, 3] ?_;refine Y6 ?_;refine Y7 ?_;refine yC ?_;refine Y68 ?_;refine s_val (v_callD (fun _ => hat)) ?_;refine s_val (v_callO (fun _ => byDef_c a b ts hts (walkM t0 p) y hy)) ?_;refine s_val (v_callD (fun _ => filled_c2 p (wayM t0 p) 0 y (by omega) (fun i hi => way_kid hok i hi) hkw (by omega) (by omega))) ?_;refine yS ?_;refine Y38 ?_;exact Tri.ret ⟨.inr rfl, ret1 rfl resV_cell (VImp.refl _), zO⟩
def kindW (ts : List KT) (way : List Tm) (len : Nat) : Tm → Int
 | .mk k n r ks cs =>
  if k = 4 then (match ks[0]? with | some f => cond (f.kind == 3) 1 8 | none => 8)
  else if k = 5 then 2
  else if k = 6 then cond (bodM r ts).isSome 3 8
  else if k = 10 then cond (ks.all (fun x => x.kind == 2)) 4 8
  else if k = 9 then (match ks[0]? with | some v => cond ((matchM cs v).kind != 0) 5 8 | none => 8)
  else if k = 11 then (if handM way r len < 0 then 9 else match way[(handM way r len).toNat]? with
   | some h => cond (decide ((h.kids.length : Int) > 2 + n)) 6 8
   | none => 8)
  else if k = 12 then 7 else 8
def kindM (ts : List KT) (t0 : Tm) (p : List Nat) : Int := kindW ts (wayM t0 p) p.length (walkM t0 p)
theorem hand_lt (way : List Tm) (r : List Int) : ∀ n, handM way r n < n ∧ -1 ≤ handM way r n
 | 0 => by simp [handM]
 | n + 1 => by
  have := hand_lt way r n
  simp only [handM]
  split
  ·split
   ·constructor <;> omega
   ·omega
  ·omega
theorem kind1_c (t : Tm) : FCall Tryz.prog G 163 [.pu (tmc 0 t)] (bv (t.kind == 2)) := by
 obtain ⟨k, n, r, ks, cs⟩ := t
 refine FCall.of_tri tbl 6 Tryz.func163 rfl rfl rfl fun w0 M ρ0 D0 => ?_
 refine yR ?_;refine s_box SS 1 ?_;refine yB ?_;refine e_seqN [1] ?_;refine Y21 ?_;refine Y2 ?_;exact Tri.ret ⟨.inr rfl, ret1 rfl resV_tmp (ToPu.imp (by repeat constructor))⟩
set_option maxHeartbeats 2000000 in
theorem kind_c (a b : Pu) (ts : List KT) (hts : ∀ x ∈ ts, x.1.length = 32) (t0 : Tm) (p : List Nat) (hok : okP t0 p) (hN : tsize t0 < 2^28) (hsh : kidsM (walkM t0 p).kind (walkM t0 p).kids.length = true) (hnum : (walkM t0 p).kind = 11 → 0 ≤ (walkM t0 p).num ∧ (walkM t0 p).num ≤ 7) :
  HCall Tryz.prog G 95 [.ptr 820 [] 181, .pu (siteP p (wayM t0 p))] (ruO a b ts) [] (iv .i64 (kindM ts t0 p)) [] [] := by
 have hpl := path_size hok
 have hwl := way_len hok
 have hat := at_c (G := G) p (wayM t0 p) (by omega)
 have hwg := way_get hok (Nat.le_refl p.length)
 rw [List.take_length, List.getElem?_eq_getElem (by omega)] at hwg
 simp only [Option.some.injEq] at hwg
 rw [hwg] at hat
 have hsz := walk_size (t := t0) (p := p)
 have hmem : walkM t0 p ∈ wayM t0 p := hwg ▸ List.getElem_mem _
 unfold kindM
 generalize hw : walkM t0 p = w at hat hsh hnum hsz hmem ⊢
 obtain ⟨k, n, r, ks, cs⟩ := w
 simp only [Tm.kind, Tm.kids, Tm.num] at hsh hnum
 have hszk : 1 + tsizeL ks + csizeL cs ≤ tsize t0 := by simpa only [tsize] using hsz
 have hlen := length_tsizeL ks
 have hhl := hand_lt (wayM t0 p) r p.length
 refine HCall.of_triD tbl 76 [] Tryz.func95 rfl rfl rfl fun w0 M ρ0 D0 => ?_
 refine Tri.fact (i := 1) rfl (fun D w x h => site_wf h) (fun hr0 => ?_)
 have hrl : r.length = 32 := (wfTs_mem hr0 _ hmem).1
 refine yR ?_;refine s_box SS 3 ?_;refine yB ?_;refine e_seqN [3] ?_;refine Y6 ?_;refine s_val (v_callD (fun _ => hat)) ?_;refine s_alloc SS 5 ?_;refine yS ?_;refine e_seqN [5] ?_;refine Y13 ?_;refine Y0 ?_;refine Tri.block ?_;refine Y15 ?_;refine Tri.cond rfl (fun h0 => ?_) (fun h0 => ?_)
 ·skip
  have hk : k = 4 := by simpa using h0
  have h2 : 0 < ks.length := by rw [hk] at hsh; simp [kidsM] at hsh; omega
  have g0 := tms_get (lo := 0) h2
  have hsp : kindW ts (wayM t0 p) p.length (.mk k n r ks cs) = cond ((ks[0]).kind == 3) 1 8 := by simp only [kindW, hk, List.getElem?_eq_getElem h2] <;> rfl
  generalize ks[0] = f at g0 hsp
  obtain ⟨fk, fn, fr, fks, fcs⟩ := f
  simp only [Tm.kind] at hsp
  refine Y14 ?_;refine s_val (v_index SS (h0 := by omega) (hp := g0)) ?_;refine Y40 ?_;refine Y0 ?_;refine Tri.cond rfl (fun h1 => ?_) (fun h1 => ?_)
  ·skip
   rw [h1] at hsp
   refine Y8 ?_;exact Tri.ret ⟨.inr rfl, ret1 rfl resV_tmp (iv_imp (by first | exact hsp.symm | cases h4)), zO⟩
  ·skip
   rw [h1] at hsp
   refine Tri.skip ?_;refine Y8 ?_;exact Tri.ret ⟨.inr rfl, ret1 rfl resV_tmp (iv_imp (by first | exact hsp.symm | cases h4)), zO⟩
 ·skip
  refine Y15 ?_;refine Tri.cond rfl (fun h2 => ?_) (fun h2 => ?_)
  ·skip
   have hk : k = 5 := by simpa using h2
   have hsp : kindW ts (wayM t0 p) p.length (.mk k n r ks cs) = 2 := by simp only [kindW, hk] <;> rfl
   refine Y8 ?_;exact Tri.ret ⟨.inr rfl, ret1 rfl resV_tmp (iv_imp (by first | exact hsp.symm | cases h4)), zO⟩
  ·skip
   refine Y15 ?_;refine Tri.cond rfl (fun h3 => ?_) (fun h3 => ?_)
   ·skip
    have hk : k = 6 := by simpa using h3
    have hsp : kindW ts (wayM t0 p) p.length (.mk k n r ks cs) = cond (bodM r ts).isSome 3 8 := by simp only [kindW, hk] <;> rfl
    rcases hb : bodM r ts with _ | y
    all_goals
     rw [hb] at hsp
     refine Y1 ?_;refine yY ?_;refine Y49 ?_
     first | refine s_val (v_lookup SS rfl rfl rfl (VImp.refl _) (mapE_ty _) (sum_cond _ []).2.2.1 (mapGet_some hrl (bod_len hts) (by rw [look_bod, hb]; rfl))) ?_ | refine s_val (v_lookup SS rfl rfl rfl (VImp.refl _) (mapE_ty _) (sum_cond _ []).2.2.1 (mapGet_none (z := .agg 32 [iv .i64 0, iv .i64 0, .pu (refP Z32), .nilc, .nilc]) (by kernel_rfl) hrl (bod_len hts) (by rw [look_bod, hb]; rfl))) ?_
     refine Y35 ?_;refine s_alloc SS 6 ?_;refine yS ?_;refine yA ?_;refine e_drawN [6] ?_;refine Y1 ?_;refine Y0 ?_;refine Tri.cond rfl (fun h4 => ?_) (fun h4 => ?_)
     ·skip
      refine Y8 ?_;exact Tri.ret ⟨.inr rfl, ret1 rfl resV_tmp (iv_imp (by first | exact hsp.symm | cases h4)), zO⟩
     ·skip
      refine Tri.skip ?_;refine Y8 ?_;exact Tri.ret ⟨.inr rfl, ret1 rfl resV_tmp (iv_imp (by first | exact hsp.symm | cases h4)), zO⟩
   ·skip
    refine Y15 ?_;refine Tri.cond rfl (fun h5 => ?_) (fun h5 => ?_)
    ·skip
     have hk : k = 10 := by simpa using h5
     have hsp : kindW ts (wayM t0 p) p.length (.mk k n r ks cs) = cond (ks.all (fun x => x.kind == 2)) 4 8 := by simp only [kindW, hk] <;> rfl
     refine Y14 ?_;refine s_val (v_callD (fun _ => every_c 163 (by kernel_rfl) (fun x => x.kind == 2) ks (by omega) (fun x _ => kind1_c x))) ?_;refine Y0 ?_;refine Tri.cond rfl (fun h6 => ?_) (fun h6 => ?_)
     ·skip
      rw [h6] at hsp
      refine Y8 ?_;exact Tri.ret ⟨.inr rfl, ret1 rfl resV_tmp (iv_imp (by first | exact hsp.symm | cases h4)), zO⟩
     ·skip
      rw [h6] at hsp
      refine Tri.skip ?_;refine Y8 ?_;exact Tri.ret ⟨.inr rfl, ret1 rfl resV_tmp (iv_imp (by first | exact hsp.symm | cases h4)), zO⟩
    ·skip
     refine Y15 ?_;refine Tri.cond rfl (fun h7 => ?_) (fun h7 => ?_)
     ·skip
      have hk : k = 9 := by simpa using h7
      have h2 : 0 < ks.length := by rw [hk] at hsh; simp [kidsM] at hsh; omega
      have hmc := matched_c (G := G) k n r ks cs h2 (by simp only [tsize]; omega)
      have hsp : kindW ts (wayM t0 p) p.length (.mk k n r ks cs) = cond ((matchM cs ks[0]).kind != 0) 5 8 := by simp only [kindW, hk, List.getElem?_eq_getElem h2] <;> rfl
      generalize matchM cs ks[0] = y at hmc hsp
      obtain ⟨yk, yn, yr, yks, ycs⟩ := y
      simp only [Tm.kind] at hsp
      refine Y6 ?_;refine s_val (v_callD (fun _ => hmc.at (u := .pu (tmc 0 (.mk yk yn yr yks ycs))) (fun m => (tmc_low (Nat.zero_le m) _).imp))) ?_;refine s_val (v_getField SS (ht := TyV.ok)) ?_;refine yI ?_;refine Y0 ?_;refine Tri.cond rfl (fun h8 => ?_) (fun h8 => ?_)
      ·skip
       rw [h8] at hsp
       refine Y8 ?_;exact Tri.ret ⟨.inr rfl, ret1 rfl resV_tmp (iv_imp (by first | exact hsp.symm | cases h4)), zO⟩
      ·skip
       rw [h8] at hsp
       refine Tri.skip ?_;refine Y8 ?_;exact Tri.ret ⟨.inr rfl, ret1 rfl resV_tmp (iv_imp (by first | exact hsp.symm | cases h4)), zO⟩
     ·skip
      refine Y15 ?_;refine Tri.cond rfl (fun h9 => ?_) (fun h9 => ?_)
      ·skip
       have hk : k = 11 := by simpa using h9
       have hnum := hnum hk
       have hsp : kindW ts (wayM t0 p) p.length (.mk k n r ks cs) = (if handM (wayM t0 p) r p.length < 0 then 9 else match (wayM t0 p)[(handM (wayM t0 p) r p.length).toNat]? with | some h => cond (decide ((h.kids.length : Int) > 2 + n)) 6 8 | none => 8) := by simp only [kindW, hk] <;> rfl
       refine Y6 ?_;refine s_val (v_mkFnD SS) ?_;refine Y10 ?_;refine Y1 ?_;refine Y49 ?_;refine yP ?_;refine s_val (v_callO (fun _ => handler_c p (wayM t0 p) r n (by omega) (by omega))) ?_;refine Y2 ?_;refine Tri.block ?_;refine Y56 ?_;refine Tri.cond rfl (fun h10 => ?_) (fun h10 => ?_)
       ·skip
        rw [if_pos (by simpa using h10)] at hsp
        refine Y8 ?_;exact Tri.ret ⟨.inr rfl, ret1 rfl resV_tmp (iv_imp (by first | exact hsp.symm | cases h4)), zO⟩
       ·skip
        have hnn : 0 ≤ handM (wayM t0 p) r p.length := by simpa using h10
        rw [if_neg (by omega)] at hsp
        have hlt : (handM (wayM t0 p) r p.length).toNat < (wayM t0 p).length := by omega
        have gw := tms_get (lo := 0) hlt
        rw [List.getElem?_eq_getElem hlt] at hsp
        simp only at hsp
        generalize (wayM t0 p)[(handM (wayM t0 p) r p.length).toNat] = x at gw hsp
        obtain ⟨xk, xn, xr, xks, xcs⟩ := x
        simp only [Tm.kids] at hsp
        refine Y45 ?_;refine s_val (v_index SS (h0 := hnn) (hp := gw)) ?_;refine Y7 ?_;refine yC ?_;refine Y40 ?_;refine yI ?_;refine yA ?_;refine Y38 ?_;refine Tri.cond rfl (fun h11 => ?_) (fun h11 => ?_)
        ·skip
         rw [tms_length, wrap64 (by omega) (by omega)] at h11
         replace hsp := hsp.trans (show _ = (6 : Int) from by have h := of_decide_eq_true h11; simp [h])
         refine Y8 ?_;exact Tri.ret ⟨.inr rfl, ret1 rfl resV_tmp (iv_imp (by first | exact hsp.symm | cases h4)), zO⟩
        ·skip
         rw [tms_length, wrap64 (by omega) (by omega)] at h11
         replace hsp := hsp.trans (show _ = (8 : Int) from by have h := of_decide_eq_false h11; simp only [gt_iff_lt] at h; simp [h])
         refine Tri.skip ?_;refine Y8 ?_;exact Tri.ret ⟨.inr rfl, ret1 rfl resV_tmp (iv_imp (by first | exact hsp.symm | cases h4)), zO⟩
      ·skip
       refine Y15 ?_;refine Tri.cond rfl (fun h12 => ?_) (fun h12 => ?_)
       ·skip
        have hk : k = 12 := by simpa using h12
        have hsp : kindW ts (wayM t0 p) p.length (.mk k n r ks cs) = 7 := by simp only [kindW, hk] <;> rfl
        refine Y8 ?_;exact Tri.ret ⟨.inr rfl, ret1 rfl resV_tmp (iv_imp (by first | exact hsp.symm | cases h4)), zO⟩
       ·skip
        have hsp : kindW ts (wayM t0 p) p.length (.mk k n r ks cs) = 8 := by
         simp only [beq_eq_false_iff_ne, ne_eq] at h0 h2 h3 h5 h7 h9 h12
         simp only [kindW, if_neg h0, if_neg h2, if_neg h3, if_neg h5, if_neg h7, if_neg h9, if_neg h12]
        refine Tri.skip ?_;refine Y8 ?_;exact Tri.ret ⟨.inr rfl, ret1 rfl resV_tmp (iv_imp (by first | exact hsp.symm | cases h4)), zO⟩
end Go.Proofs.YtkcgkignhpepkaaGreatDoor

/- Shapes and sizes of what comes of a step. -/
namespace Go.Proofs.YtkcgkignhpepkaaGreatDoor
open Go Hs
variable {mn md : Int}
mutual
theorem longP_n : ∀ (p : Pat) (d c : Int), (longP mn md d c p).1 = false → (longP mn md d c p).2 = c + psize p
 | .mk _ _ _ ks, d, c, h => by
  simp only [longP, psize] at h ⊢
  split at h
  ·cases h
  ·rename_i hn
   rw [if_neg hn]
   have := longPs_n ks (d + 1) (c + 1) h
   rw [this]; omega
theorem longPs_n : ∀ (ks : List Pat) (d c : Int), (longPs mn md d c ks).1 = false → (longPs mn md d c ks).2 = c + psizeL ks
 | [], d, c, h => by simp [longPs, psizeL]
 | p :: ps, d, c, h => by
  have h1 := longP_n p d c
  simp only [longPs, psizeL] at h ⊢
  rcases hs : longP mn md d c p with ⟨b, c'⟩
  rw [hs] at h1 h
  cases b
  ·have h1 := h1 rfl
   have h2 := longPs_n ps d c' h
   simp only at h1 h2 ⊢
   rw [h2, h1]; omega
  ·cases h
end
mutual
theorem longT_n : ∀ (t : Tm) (d c : Int), (longT mn md d c t).1 = false → (longT mn md d c t).2 = c + tsize t
 | .mk _ _ _ ks cs, d, c, h => by
  simp only [longT, tsize] at h ⊢
  split at h
  ·cases h
  ·rename_i hn
   rw [if_neg hn]
   have h1 := longTs_n ks (d + 1) (c + 1)
   rcases hs : longTs mn md (d + 1) (c + 1) ks with ⟨b, c'⟩
   rw [hs] at h1 h
   cases b
   ·have h1 := h1 rfl
    have h2 := longCs_n cs (d + 1) c' h
    simp only at h1 h2 ⊢
    rw [h2, h1]; omega
   ·cases h
theorem longTs_n : ∀ (ks : List Tm) (d c : Int), (longTs mn md d c ks).1 = false → (longTs mn md d c ks).2 = c + tsizeL ks
 | [], d, c, h => by simp [longTs, tsizeL]
 | p :: ps, d, c, h => by
  have h1 := longT_n p d c
  simp only [longTs, tsizeL] at h ⊢
  rcases hs : longT mn md d c p with ⟨b, c'⟩
  rw [hs] at h1 h
  cases b
  ·have h1 := h1 rfl
   have h2 := longTs_n ps d c' h
   simp only at h1 h2 ⊢
   rw [h2, h1]; omega
  ·cases h
theorem longC_n : ∀ (x : Cs) (d c : Int), (longC mn md d c x).1 = false → (longC mn md d c x).2 = c + csize x
 | .mk p t, d, c, h => by
  have h1 := longP_n (mn := mn) (md := md) p d c
  simp only [longC, csize] at h ⊢
  rcases hs : longP mn md d c p with ⟨b, c'⟩
  rw [hs] at h1 h
  cases b
  ·have h1 := h1 rfl
   have h2 := longT_n t d c' h
   simp only at h1 h2 ⊢
   rw [h2, h1]; omega
  ·cases h
theorem longCs_n : ∀ (ks : List Cs) (d c : Int), (longCs mn md d c ks).1 = false → (longCs mn md d c ks).2 = c + csizeL ks
 | [], d, c, h => by simp [longCs, csizeL]
 | p :: ps, d, c, h => by
  have h1 := longC_n p d c
  simp only [longCs, csizeL] at h ⊢
  rcases hs : longC mn md d c p with ⟨b, c'⟩
  rw [hs] at h1 h
  cases b
  ·have h1 := h1 rfl
   have h2 := longCs_n ps d c' h
   simp only at h1 h2 ⊢
   rw [h2, h1]; omega
  ·cases h
end
theorem long_size {t : Tm} {d c : Int} (hc : c ≤ mn) (h : (longT mn md d c t).1 = false) : c + tsize t ≤ mn := by
 have h1 := longT_n t d c h
 have h2 := (longT_b (mn := mn) (md := md) t d c hc).2.2 h
 omega
theorem sh_none : shT noneM := by simp [noneM, shT, shL, shC, kidsM]
theorem sh_nat (n : Int) : shT (natM n) := by simp [natM, shT, shL, shC, kidsM]
theorem sh_var : shT varM := by simp [varM, shT, shL, shC, kidsM]
mutual
theorem sh_put (vs : List Tm) (hv : ∀ v ∈ vs, shT v) : ∀ (t : Tm) (d : Int), shT t → shT (putM vs d t)
 | .mk k n r ks cs, d, h => by
  simp only [shT] at h
  obtain ⟨h1, h2, h3, h4⟩ := h
  have k1 := sh_putK vs hv ks d k 0 h3
  have k2 := sh_putC vs hv cs d h4
  simp only [putM]
  split
  ·rename_i hC
   split
   ·exact hv _ (List.getElem_mem _)
   ·refine ⟨by rw [putK_len]; exact h1, fun e => ?_, k1, k2⟩
    rw [hC.1] at e; cases e
  ·exact ⟨by rw [putK_len]; exact h1, h2, k1, k2⟩
theorem sh_putK (vs : List Tm) (hv : ∀ v ∈ vs, shT v) : ∀ (ks : List Tm) (d k : Int) (i : Nat), shL ks → shL (putK vs d k i ks)
 | [], _, _, _, _ => trivial
 | t :: ts, d, k, i, h => ⟨sh_put vs hv t _ h.1, sh_putK vs hv ts d k (i + 1) h.2⟩
theorem sh_putC (vs : List Tm) (hv : ∀ v ∈ vs, shT v) : ∀ (cs : List Cs) (d : Int), shC cs → shC (putC vs d cs)
 | [], _, _ => trivial
 | c :: cs, d, h => ⟨sh_putS vs hv c d h.1, sh_putC vs hv cs d h.2⟩
theorem sh_putS (vs : List Tm) (hv : ∀ v ∈ vs, shT v) : ∀ (c : Cs) (d : Int), shS c → shS (putS vs d c)
 | .mk q t, d, h => sh_put vs hv t _ h
end
theorem sh_kid {t x : Tm} {i : Nat} (h : shT t) (hx : t.kids[i]? = some x) : shT x := by
 obtain ⟨k, n, r, ks, cs⟩ := t
 exact shL_mem h.2.2.1 _ (List.mem_of_getElem? hx)
theorem sh_walk : ∀ {t : Tm} {p : List Nat}, shT t → shT (walkM t p)
 | t, [], h => h
 | t, i :: p, h => by
  simp only [walkM]
  split
  ·rename_i x hx; exact sh_walk (sh_kid h hx)
  ·exact h
theorem shL_set : ∀ {ks : List Tm} {j : Nat} {x : Tm}, shL ks → shT x → shL (ks.set j x)
 | [], _, _, _, _ => trivial
 | t :: ts, 0, x, h, hx => ⟨hx, h.2⟩
 | t :: ts, j + 1, x, h, hx => ⟨h.1, shL_set h.2 hx⟩
theorem sh_set {t x : Tm} {j : Nat} (h : shT t) (hx : shT x) : shT (setKid t j x) := by
 obtain ⟨k, n, r, ks, cs⟩ := t
 exact ⟨by rw [List.length_set]; exact h.1, h.2.1, shL_set h.2.2.1 hx, h.2.2.2⟩
theorem sh_fill {t : Tm} {p : List Nat} (hok : okP t p) (ht : shT t) (lo : Nat) : ∀ (hi : Nat) (x : Tm), hi ≤ p.length → shT x → shT (fillM (wayM t p) p lo hi x)
 | 0, x, _, h => h
 | n + 1, x, hn, h => by
  simp only [fillM]
  split
  ·exact h
  ·rw [way_get hok (by omega), List.getElem?_eq_getElem (show n < p.length by omega)]
   exact sh_fill hok ht lo n _ (by omega) (sh_set (sh_walk ht) h)
mutual
theorem sh_fits : ∀ (p : Pat) (v : Tm), shT v → ∀ x ∈ (fitsM p v).1, shT x
 | .mk k n r ks, v, h, x, hx => by
  simp only [fitsM] at hx
  split at hx
  ·simp at hx; rw [hx]; exact h
  ·split at hx
   ·simp at hx
   ·split at hx
    ·split at hx
     ·simp at hx
     ·obtain ⟨k', n', r', ks', cs'⟩ := v
      exact sh_fitsL ks ks' h.2.2.1 x hx
    ·simp at hx
theorem sh_fitsL : ∀ (ps : List Pat) (vs : List Tm), shL vs → ∀ x ∈ (fitsL ps vs).1, shT x
 | [], vs, _, x, hx => by simp [fitsL] at hx
 | _ :: _, [], _, x, hx => by simp [fitsL] at hx
 | p :: ps, v :: vs, h, x, hx => by
  simp only [fitsL, fitAdd] at hx
  split at hx
  ·rcases List.mem_append.1 hx with h' | h'
   ·exact sh_fits p v h.1 x h'
   ·exact sh_fitsL ps vs h.2 x h'
  ·simp at hx
end
theorem sh_match : ∀ (cs : List Cs) (v : Tm), shC cs → shT v → shT (matchM cs v)
 | [], v, _, _ => sh_none
 | .mk q b :: cs, v, h, hv => by
  simp only [matchM]
  split
  ·exact sh_put _ (sh_fits q v hv) b 0 h.1
  ·exact sh_match cs v h.2 hv
mutual
theorem put_size (vs : List Tm) (B : Nat) (hv : ∀ v ∈ vs, tsize v ≤ B) : ∀ (t : Tm) (d : Int), tsize (putM vs d t) ≤ tsize t * (1 + B)
 | .mk k n r ks cs, d => by
  have k1 := put_sizeK vs B hv ks d k 0
  have k2 := put_sizeC vs B hv cs d
  have e : tsize (.mk k n r ks cs) * (1 + B) = (1 + B) + tsizeL ks * (1 + B) + csizeL cs * (1 + B) := by simp only [tsize]; rw [Nat.add_mul, Nat.add_mul, Nat.one_mul]
  rw [e]
  simp only [putM]
  split
  ·split
   ·have := hv _ (List.getElem_mem (l := vs) (n := vs.length - 1 - (IntKind.wrap .i64 (n - d)).toNat) (by omega))
    omega
   ·simp only [tsize]; omega
  ·simp only [tsize]; omega
theorem put_sizeK (vs : List Tm) (B : Nat) (hv : ∀ v ∈ vs, tsize v ≤ B) : ∀ (ks : List Tm) (d k : Int) (i : Nat), tsizeL (putK vs d k i ks) ≤ tsizeL ks * (1 + B)
 | [], _, _, _ => by simp [putK, tsizeL]
 | t :: ts, d, k, i => by
  have h1 := put_size vs B hv t (d + moreM k i)
  have h2 := put_sizeK vs B hv ts d k (i + 1)
  simp only [putK, tsizeL, Nat.add_mul]; omega
theorem put_sizeC (vs : List Tm) (B : Nat) (hv : ∀ v ∈ vs, tsize v ≤ B) : ∀ (cs : List Cs) (d : Int), csizeL (putC vs d cs) ≤ csizeL cs * (1 + B)
 | [], _ => by simp [putC, csizeL]
 | c :: cs, d => by
  have h1 := put_sizeS vs B hv c d
  have h2 := put_sizeC vs B hv cs d
  simp only [putC, csizeL, Nat.add_mul]; omega
theorem put_sizeS (vs : List Tm) (B : Nat) (hv : ∀ v ∈ vs, tsize v ≤ B) : ∀ (c : Cs) (d : Int), csize (putS vs d c) ≤ csize c * (1 + B)
 | .mk q t, d => by
  have h1 := put_size vs B hv t (d + bindsM q)
  have h2 : psize q ≤ psize q * (1 + B) := Nat.le_mul_of_pos_right _ (by omega)
  simp only [putS, csize, Nat.add_mul] at h1 h2 ⊢; omega
end
theorem match_size : ∀ (cs : List Cs) (v : Tm), tsize (matchM cs v) ≤ (1 + csizeL cs) * (1 + tsize v)
 | [], v => by simp [matchM, noneM, tsize, tsizeL, csizeL]
 | .mk q b :: cs, v => by
  have h1 := put_size (fitsM q v).1 (tsize v) (fits_sz q v) b 0
  have h2 := match_size cs v
  have h3 : tsize b * (1 + tsize v) ≤ (1 + (psize q + tsize b + csizeL cs)) * (1 + tsize v) := Nat.mul_le_mul_right _ (by omega)
  have h4 : (1 + csizeL cs) * (1 + tsize v) ≤ (1 + (psize q + tsize b + csizeL cs)) * (1 + tsize v) := Nat.mul_le_mul_right _ (by omega)
  simp only [matchM, csizeL, csize]
  split <;> omega
end Go.Proofs.YtkcgkignhpepkaaGreatDoor

/- What a kind of step makes of the whole, kind by kind. -/
namespace Go.Proofs.YtkcgkignhpepkaaGreatDoor
open Go Hs
variable {G : List (Nat × TypeId × Pu)}
theorem orE_zero {a b : Int} (h : orE a b = 0) : a = 0 ∧ b = 0 := by
 unfold orE at h
 split at h
 ·exact ⟨by assumption, h⟩
 ·contradiction
theorem termErr_sh {m d b k n : Int} {r : List Int} {nk nc : Int} (h : termErr m d b k n r nk nc = 0) : kidsM k nk = true ∧ (k = 11 → 0 ≤ n ∧ n ≤ 7) := by
 unfold termErr at h
 cases h1 : offM k 1 12 with
 | true => simp [h1] at h
 | false =>
 cases h2 : clashM (hasNumM k) (hasRefM k) (hasCasesM k) n r nc with
 | true => simp [h1, h2] at h
 | false =>
 cases h3 : (!kidsM k nk || decide (nc > 8)) with
 | true => rw [h1, h2, h3] at h; simp at h
 | false =>
 rw [h1, h2, h3] at h
 refine ⟨by simp at h3; exact h3.1, fun e => ?_⟩
 subst e
 simp [offM] at h
 omega
mutual
theorem aerr_sh {m d : Int} : ∀ (t : Tm) (b : Int), aerr m d b t = 0 → shT t
 | .mk k n r ks cs, b, h => by
  simp only [aerr] at h
  obtain ⟨h1, h⟩ := orE_zero h
  obtain ⟨_, h⟩ := orE_zero h
  obtain ⟨h2, h3⟩ := orE_zero h
  obtain ⟨k1, k2⟩ := termErr_sh h1
  exact ⟨k1, k2, aerrK_sh ks b k 0 h2, aerrC_sh cs b h3⟩
theorem aerrK_sh {m d : Int} : ∀ (ks : List Tm) (b k : Int) (i : Nat), aerrK m d b k i ks = 0 → shL ks
 | [], _, _, _, _ => trivial
 | t :: ts, b, k, i, h => by
  simp only [aerrK] at h
  obtain ⟨h1, h2⟩ := orE_zero h
  exact ⟨aerr_sh t _ h1, aerrK_sh ts b k (i + 1) h2⟩
theorem aerrC_sh {m d : Int} : ∀ (cs : List Cs) (b : Int), aerrC m d b cs = 0 → shC cs
 | [], _, _ => trivial
 | c :: cs, b, h => by
  simp only [aerrC] at h
  obtain ⟨h1, h2⟩ := orE_zero h
  exact ⟨aerrS_sh c b h1, aerrC_sh cs b h2⟩
theorem aerrS_sh {m d : Int} : ∀ (c : Cs) (b : Int), aerrCs m d b c = 0 → shS c
 | .mk q t, b, h => aerr_sh t _ h
end
theorem check_sh {t : Tm} {d m : Int} (h : checkM t d m = 0) : shT t ∧ tsize t ≤ 300 := by
 unfold checkM at h
 split at h
 ·cases h
 ·rename_i hl
  have := long_size (mn := 300) (md := 60) (t := t) (d := 1) (c := 0) (by omega) (by simpa using hl)
  exact ⟨aerr_sh t 0 h, by omega⟩
def appM (w : Tm) : Tm := match w.kids[0]?, w.kids[1]? with
 | some f, some x => match f.kids[0]? with
  | some b => putM [x] 0 b
  | none => noneM
 | _, _ => noneM
def letM (w : Tm) : Tm := match w.kids[0]?, w.kids[1]? with
 | some x, some b => putM [x] 0 b
 | _, _ => noneM
def priM (w : Tm) : Tm := match w.kids[0]?, w.kids[1]? with
 | some x, some y => primM w.num x.num y.num
 | _, _ => noneM
def matM (w : Tm) : Tm := match w.kids[0]? with
 | some v => matchM w.cases v
 | none => noneM
def doM (t0 : Tm) (p : List Nat) : Tm :=
 match (walkM t0 p).kids[0]?, (walkM t0 (p.take (handM (wayM t0 p) (walkM t0 p).ref p.length).toNat)).kids[(2 + (walkM t0 p).num).toNat]? with
 | some a, some b => fillM (wayM t0 p) p 0 (handM (wayM t0 p) (walkM t0 p).ref p.length).toNat (putM [a, backM t0 p (handM (wayM t0 p) (walkM t0 p).ref p.length).toNat] 0 b)
 | _, _ => noneM
def doesM (ts : List KT) (t0 : Tm) (p : List Nat) (k : Int) : Tm :=
 if k = 1 then hereM t0 p (appM (walkM t0 p)) else if k = 2 then hereM t0 p (letM (walkM t0 p)) else if k = 3 then hereM t0 p ((bodM (walkM t0 p).ref ts).getD noneM)
 else if k = 4 then hereM t0 p (priM (walkM t0 p)) else if k = 5 then hereM t0 p (matM (walkM t0 p)) else if k = 6 then doM t0 p else hereM t0 p (letM (walkM t0 p))
theorem kind_mk {k n : Int} {r : List Int} {ks : List Tm} {cs : List Cs} : (Tm.mk k n r ks cs).kind = k := rfl
theorem num_mk {k n : Int} {r : List Int} {ks : List Tm} {cs : List Cs} : (Tm.mk k n r ks cs).num = n := rfl
theorem ref_mk {k n : Int} {r : List Int} {ks : List Tm} {cs : List Cs} : (Tm.mk k n r ks cs).ref = r := rfl
theorem kids_mk {k n : Int} {r : List Int} {ks : List Tm} {cs : List Cs} : (Tm.mk k n r ks cs).kids = ks := rfl
theorem kind_inv {ts : List KT} {way : List Tm} {len : Nat} {w : Tm} {j : Int} (h : kindW ts way len w = j) :
  (j = 1 → w.kind = 4 ∧ ∃ f, w.kids[0]? = some f ∧ f.kind = 3) ∧ (j = 2 → w.kind = 5) ∧ (j = 3 → w.kind = 6 ∧ (bodM w.ref ts).isSome = true) ∧ (j = 4 → w.kind = 10) ∧ (j = 5 → w.kind = 9) ∧
  (j = 6 → w.kind = 11 ∧ 0 ≤ handM way w.ref len ∧ ∃ x, way[(handM way w.ref len).toNat]? = some x ∧ (x.kids.length : Int) > 2 + w.num) ∧ (j = 7 → w.kind = 12) ∧ (1 ≤ j ∧ j ≤ 9) ∧ (j = 9 → w.kind = 11) := by
 obtain ⟨k, n, r, ks, cs⟩ := w
 simp only [kind_mk, kids_mk, ref_mk, num_mk]
 simp only [kindW] at h
 subst h
 split
 ·subst k
  cases hf : ks[0]? with
  | none => simp
  | some f =>
   simp only
   generalize hb : (f.kind == 3) = bb
   cases bb
   ·simp
   ·have : f.kind = 3 := by simpa using hb
    simp [this]
 ·split
  ·simp_all
  ·split
   ·subst k
    generalize hb : (bodM r ts).isSome = bb
    cases bb <;> simp
   ·split
    ·generalize hb : ks.all (fun x => x.kind == 2) = bb
     cases bb <;> simp_all
    ·split
     ·subst k
      cases hf : ks[0]? with
      | none => simp
      | some f =>
       simp only
       generalize hb : ((matchM cs f).kind != 0) = bb
       cases bb <;> simp
     ·split
      ·subst k
       split
       ·simp
       ·rename_i hn
        cases hx : way[(handM way r len).toNat]? with
        | none => simp
        | some x =>
         simp only
         generalize hb : decide ((x.kids.length : Int) > 2 + n) = bb
         cases bb
         ·simp
         ·have := of_decide_eq_true hb
          simp only [cond_true]
          refine ⟨fun e => by omega, fun e => by omega, fun e => by omega, fun e => by omega, fun e => by omega, fun _ => ⟨trivial, by omega, x, rfl, this⟩, fun e => by omega, by omega, fun e => by omega⟩
      ·split
       ·simp_all
       ·simp
theorem len2 {t : Tm} (h : shT t) (hk : t.kind = 4 ∨ t.kind = 5 ∨ t.kind = 10) : ∃ x y, t.kids[0]? = some x ∧ t.kids[1]? = some y := by
 obtain ⟨k, n, r, ks, cs⟩ := t
 have := h.1
 simp only [Tm.kind, Tm.kids] at hk ⊢
 have hl : ks.length = 2 := by rcases hk with rfl | rfl | rfl <;> simp [kidsM] at this <;> omega
 exact ⟨ks[0], ks[1], by simp [hl], by simp [hl]⟩
theorem len1 {t : Tm} (h : shT t) (hk : t.kind = 3 ∨ t.kind = 9 ∨ t.kind = 11) : ∃ x, t.kids[0]? = some x := by
 obtain ⟨k, n, r, ks, cs⟩ := t
 have := h.1
 simp only [Tm.kind, Tm.kids] at hk ⊢
 have hl : ks.length = 1 := by rcases hk with rfl | rfl | rfl <;> simp [kidsM] at this <;> omega
 exact ⟨ks[0], by simp [hl]⟩
theorem len12 {t : Tm} (h : shT t) (hk : t.kind = 12) : ∃ x y, t.kids[0]? = some x ∧ t.kids[1]? = some y := by
 obtain ⟨k, n, r, ks, cs⟩ := t
 have := h.1
 simp only [Tm.kind, Tm.kids] at hk ⊢
 have hl : 2 ≤ ks.length := by subst hk; simp [kidsM, offM] at this; omega
 exact ⟨ks[0], ks[1], List.getElem?_eq_getElem _, List.getElem?_eq_getElem _⟩
end Go.Proofs.YtkcgkignhpepkaaGreatDoor

/- What each kind of step makes of the whole: contracts. -/
namespace Go.Proofs.YtkcgkignhpepkaaGreatDoor
open Go Hs
variable {G : List (Nat × TypeId × Pu)}
theorem lowAt {P : Program} (t : Tm) : ∀ m, VImp P (.pu (tmc m t)) (.pu (tmc 0 t)) := fun m => (tmc_low (Nat.zero_le m) t).imp
theorem does1_c {ts : List KT} {t0 : Tm} {p : List Nat} (hs : shT t0) (hok : okP t0 p) (hN : tsize t0 < 2^28) (hk : kindM ts t0 p = 1) : HCall Tryz.prog G 152 [.pu (siteP p (wayM t0 p)), .ptr 831 [] 36] [(831, .var 36 (fV 155))] [] (.pu (tmc 0 (doesM ts t0 p 1))) [] [] := by
 obtain ⟨h4, f, hf, hf3⟩ := (kind_inv hk).1 rfl
 have hw := sh_walk (p := p) hs
 obtain ⟨x, y, hx, hy⟩ := len2 hw (.inl h4)
 obtain ⟨b, hb⟩ := len1 (sh_kid hw hf) (.inl hf3)
 have hsz := walk_size (t := t0) (p := p)
 have e : doesM ts t0 p 1 = hereM t0 p (putM [y] 0 b) := by simp [doesM, appM, hf, hy, hb]
 rw [e];exact here831_c _ (by kernel_rfl) t0 p hok hN _ ((byApp_c (walkM t0 p) f y b hf hy hb (by omega)).at (lowAt _))
theorem does2_c {ts : List KT} {t0 : Tm} {p : List Nat} (hs : shT t0) (hok : okP t0 p) (hN : tsize t0 < 2^28) (hk : kindM ts t0 p = 2) : HCall Tryz.prog G 152 [.pu (siteP p (wayM t0 p)), .ptr 832 [] 36] [(832, .var 36 (fV 157))] [] (.pu (tmc 0 (doesM ts t0 p 2))) [] [] := by
 have h5 := (kind_inv hk).2.1 rfl
 have hw := sh_walk (p := p) hs
 obtain ⟨x, y, hx, hy⟩ := len2 hw (.inr (.inl h5))
 have hsz := walk_size (t := t0) (p := p)
 have e : doesM ts t0 p 2 = hereM t0 p (putM [x] 0 y) := by simp [doesM, letM, hx, hy]
 rw [e];exact here832_c _ (by kernel_rfl) t0 p hok hN _ ((byLet_c (walkM t0 p) x y hx hy (by omega)).at (lowAt _))
theorem does3_c (a b : Pu) {ts : List KT} (hts : ∀ x ∈ ts, x.1.length = 32) {t0 : Tm} {p : List Nat} (hok : okP t0 p) (hN : tsize t0 < 2^28) (hk : kindM ts t0 p = 3) : HCall Tryz.prog G 152 [.pu (siteP p (wayM t0 p)), .ptr 833 [] 36] (ruO a b ts) [] (.pu (tmc 0 (doesM ts t0 p 3))) [] [] := by
 obtain ⟨_, h6⟩ := (kind_inv hk).2.2.1 rfl
 obtain ⟨y, hy⟩ := Option.isSome_iff_exists.1 h6
 have e : doesM ts t0 p 3 = hereM t0 p y := by simp [doesM, hy]
 rw [e];exact here833_c a b ts hts t0 p hok hN y hy
theorem does4_c {ts : List KT} {t0 : Tm} {p : List Nat} (hs : shT t0) (hok : okP t0 p) (hN : tsize t0 < 2^28) (hk : kindM ts t0 p = 4) : HCall Tryz.prog G 152 [.pu (siteP p (wayM t0 p)), .ptr 834 [] 36] [(834, .var 36 (fV 159))] [] (.pu (tmc 0 (doesM ts t0 p 4))) [] [] := by
 have h10 := (kind_inv hk).2.2.2.1 rfl
 have hw := sh_walk (p := p) hs
 obtain ⟨x, y, hx, hy⟩ := len2 hw (.inr (.inr h10))
 have e : doesM ts t0 p 4 = hereM t0 p (primM (walkM t0 p).num x.num y.num) := by simp [doesM, priM, hx, hy]
 rw [e];refine here834_c _ (by kernel_rfl) t0 p hok hN _ ?_
 generalize walkM t0 p = w at hx hy ⊢
 obtain ⟨k, n, r, ks, cs⟩ := w
 simp only [kids_mk] at hx hy
 obtain ⟨hx1, hx2⟩ := List.getElem?_eq_some_iff.1 hx
 obtain ⟨hy1, hy2⟩ := List.getElem?_eq_some_iff.1 hy
 subst hx2 hy2;exact (prim_c k n r ks cs (by omega)).at (lowAt _)
theorem does5_c {ts : List KT} {t0 : Tm} {p : List Nat} (hs : shT t0) (hok : okP t0 p) (hN : tsize t0 < 2^28) (hk : kindM ts t0 p = 5) : HCall Tryz.prog G 152 [.pu (siteP p (wayM t0 p)), .ptr 835 [] 36] [(835, .var 36 (fV 160))] [] (.pu (tmc 0 (doesM ts t0 p 5))) [] [] := by
 have h9 := (kind_inv hk).2.2.2.2.1 rfl
 have hw := sh_walk (p := p) hs
 obtain ⟨x, hx⟩ := len1 hw (.inr (.inl h9))
 have hsz := walk_size (t := t0) (p := p)
 have e : doesM ts t0 p 5 = hereM t0 p (matchM (walkM t0 p).cases x) := by simp [doesM, matM, hx]
 rw [e];refine here835_c _ (by kernel_rfl) t0 p hok hN _ ?_
 generalize walkM t0 p = w at hx hsz ⊢
 obtain ⟨k, n, r, ks, cs⟩ := w
 simp only [kids_mk] at hx
 obtain ⟨hx1, hx2⟩ := List.getElem?_eq_some_iff.1 hx
 subst hx2;exact (matched_c k n r ks cs (by omega) (by omega)).at (lowAt _)
theorem does6_c {ts : List KT} {t0 : Tm} {p : List Nat} (hs : shT t0) (hok : okP t0 p) (hN : tsize t0 < 2^28) (hk : kindM ts t0 p = 6) : FCall Tryz.prog G 161 [.pu (siteP p (wayM t0 p))] (.pu (tmc 0 (doesM ts t0 p 6))) := by
 obtain ⟨h11, hn0, x, hx1, hx2⟩ := (kind_inv hk).2.2.2.2.2.1 rfl
 have hw := sh_walk (p := p) hs
 obtain ⟨v, hv⟩ := len1 hw (.inr (.inr h11))
 have hlt := hand_lt (wayM t0 p) (walkM t0 p).ref p.length
 have hnum : 0 ≤ (walkM t0 p).num ∧ (walkM t0 p).num ≤ 7 := by
  generalize walkM t0 p = w at hw h11 ⊢
  obtain ⟨k, n, r, ks, cs⟩ := w
  exact hw.2.1 h11
 obtain ⟨nn, hnn⟩ : ∃ nn, nn = (handM (wayM t0 p) (walkM t0 p).ref p.length).toNat := ⟨_, rfl⟩
 have hnp : nn < p.length := by omega
 rw [← hnn, way_get hok (by omega)] at hx1
 simp only [Option.some.injEq] at hx1
 obtain ⟨b, hb⟩ : ∃ b, (walkM t0 (p.take nn)).kids[(2 + (walkM t0 p).num).toNat]? = some b := by
  rw [hx1];exact ⟨_, List.getElem?_eq_getElem (by omega)⟩
 have e : doesM ts t0 p 6 = fillM (wayM t0 p) p 0 nn (putM [v, backM t0 p nn] 0 b) := by
  simp only [doesM, doM, ← hnn, hv, hb]; rfl
 rw [e];exact do_c t0 p hok hN nn v b (by omega) hnp ⟨hnum.1, by omega⟩ hv hb
theorem does7_c {ts : List KT} {t0 : Tm} {p : List Nat} (hs : shT t0) (hok : okP t0 p) (hN : tsize t0 < 2^28) (hk : kindM ts t0 p = 7) : HCall Tryz.prog G 152 [.pu (siteP p (wayM t0 p)), .ptr 836 [] 36] [(836, .var 36 (fV 162))] [] (.pu (tmc 0 (doesM ts t0 p 7))) [] [] := by
 have h12 := (kind_inv hk).2.2.2.2.2.2.1 rfl
 have hw := sh_walk (p := p) hs
 obtain ⟨x, y, hx, hy⟩ := len12 hw h12
 have hsz := walk_size (t := t0) (p := p)
 have e : doesM ts t0 p 7 = hereM t0 p (putM [x] 0 y) := by simp [doesM, letM, hx, hy]
 rw [e];exact here836_c _ (by kernel_rfl) t0 p hok hN _ ((byRet_c (walkM t0 p) x y hx hy (by omega)).at (lowAt _))
theorem sh_prim (op a b : Int) : shT (primM op a b) := sh_nat _
theorem sh_bod {s : List Int} {y : Tm} : ∀ {ts : List KT}, (∀ x ∈ ts, shT x.2) → bodM s ts = some y → shT y
 | [], _, h => by cases h
 | x :: ts, h, hy => by
  simp only [bodM] at hy
  split at hy
  ·simp at hy; rw [← hy]; exact h x (by simp)
  ·exact sh_bod (fun z hz => h z (by simp [hz])) hy
theorem sz_bod {s : List Int} {y : Tm} {B : Nat} : ∀ {ts : List KT}, (∀ x ∈ ts, tsize x.2 ≤ B) → bodM s ts = some y → tsize y ≤ B
 | [], _, h => by cases h
 | x :: ts, h, hy => by
  simp only [bodM] at hy
  split at hy
  ·simp at hy; rw [← hy]; exact h x (by simp)
  ·exact sz_bod (fun z hz => h z (by simp [hz])) hy
theorem does_sh {ts : List KT} (hb : ∀ x ∈ ts, shT x.2) {t0 : Tm} {p : List Nat} (hs : shT t0) (hok : okP t0 p) (k : Int) : shT (doesM ts t0 p k) := by
 have hw := sh_walk (p := p) hs
 have here : ∀ y, shT y → shT (hereM t0 p y) := fun y hy => sh_fill hok hs 0 _ _ (Nat.le_refl _) hy
 have hput : ∀ x y, shT x → shT y → shT (putM [x] 0 y) := fun x y hx hy => sh_put _ (fun v hv => by simp at hv; rw [hv]; exact hx) _ _ hy
 have hlet : shT (letM (walkM t0 p)) := by
  unfold letM
  split
  ·rename_i x b h1 h2; exact hput _ _ (sh_kid hw h1) (sh_kid hw h2)
  ·exact sh_none
 unfold doesM
 split
 ·refine here _ ?_
  unfold appM
  split
  ·rename_i f x h1 h2
   split
   ·rename_i b h3; exact hput _ _ (sh_kid hw h2) (sh_kid (sh_kid hw h1) h3)
   ·exact sh_none
  ·exact sh_none
 split
 ·exact here _ hlet
 split
 ·refine here _ ?_
  cases hy : bodM (walkM t0 p).ref ts with
  | none => exact sh_none
  | some y => exact sh_bod hb hy
 split
 ·refine here _ ?_
  unfold priM
  split
  ·exact sh_prim _ _ _
  ·exact sh_none
 split
 ·refine here _ ?_
  unfold matM
  split
  ·rename_i v hv
   have hv' := sh_kid hw hv
   generalize walkM t0 p = w at hw
   obtain ⟨k, n, r, ks, cs⟩ := w
   exact sh_match _ _ hw.2.2.2 hv'
  ·exact sh_none
 split
 ·unfold doM
  split
  ·rename_i a b h1 h2
   have hlt := hand_lt (wayM t0 p) (walkM t0 p).ref p.length
   refine sh_fill hok hs 0 _ _ (by omega) (sh_put _ (fun v hv => ?_) _ _ (sh_kid (sh_walk hs) h2))
   simp at hv
   rcases hv with rfl | rfl
   ·exact sh_kid hw h1
   ·refine ⟨by simp [kidsM], fun e => (by cases e), ⟨sh_fill hok hs _ _ _ (Nat.le_refl _) sh_var, trivial⟩, trivial⟩
  ·exact sh_none
 ·exact here _ hlet
theorem does_sz {ts : List KT} (hb : ∀ x ∈ ts, tsize x.2 ≤ 300) {t0 : Tm} {p : List Nat} (hok : okP t0 p) (hN : tsize t0 ≤ 3000) (k : Int) : tsize (doesM ts t0 p k) ≤ 9012000 := by
 have hw := walk_size (t := t0) (p := p)
 have hn1 : tsize noneM = 1 := by simp [noneM, tsize, tsizeL, csizeL]
 have here : ∀ y, tsize y ≤ 9009000 → tsize (hereM t0 p y) ≤ 9012000 := fun y hy => by
  have := fill_size hok 0 p.length y (Nat.le_refl _)
  unfold hereM; omega
 have hput : ∀ (vs : List Tm) y, (∀ v ∈ vs, tsize v ≤ 3002) → tsize y ≤ 3000 → tsize (putM vs 0 y) ≤ 9009000 := fun vs y hv hy => by
  have h1 := put_size vs 3002 hv y 0
  have h2 : tsize y * (1 + 3002) ≤ 9009000 := by omega
  omega
 have hlet : tsize (letM (walkM t0 p)) ≤ 9009000 := by
  unfold letM
  split
  ·rename_i x b h1 h2
   have := kid_size h1; have := kid_size h2
   exact hput _ _ (fun v hv => by simp at hv; subst hv; omega) (by omega)
  ·omega
 unfold doesM
 split
 ·refine here _ ?_
  unfold appM
  split
  ·rename_i f x h1 h2
   split
   ·rename_i b h3
    have := kid_size h1; have := kid_size h2; have := kid_size h3
    exact hput _ _ (fun v hv => by simp at hv; subst hv; omega) (by omega)
   ·omega
  ·omega
 split
 ·exact here _ hlet
 split
 ·refine here _ ?_
  cases hy : bodM (walkM t0 p).ref ts with
  | none => simp only [Option.getD]; omega
  | some y => have := sz_bod hb hy; simp only [Option.getD]; omega
 split
 ·refine here _ ?_
  unfold priM
  split
  ·simp [primM, natM, tsize, tsizeL, csizeL]
  ·omega
 split
 ·refine here _ ?_
  unfold matM
  split
  ·rename_i v hv
   have h1 := kid_size hv
   have h2 := match_size (walkM t0 p).cases v
   have h3 : 1 + csizeL (walkM t0 p).cases ≤ 3000 := by
    generalize walkM t0 p = w at hw
    obtain ⟨k, n, r, ks, cs⟩ := w
    simp only [tsize] at hw
    simp only [Tm.cases]; omega
   have h4 : (1 + csizeL (walkM t0 p).cases) * (1 + tsize v) ≤ 9009000 := by
    have := Nat.mul_le_mul h3 (show 1 + tsize v ≤ 3001 by omega)
    omega
   omega
  ·omega
 split
 ·unfold doM
  split
  ·rename_i a b h1 h2
   have hlt := hand_lt (wayM t0 p) (walkM t0 p).ref p.length
   have k1 := kid_size h1
   have k2 := kid_size h2
   have k3 := walk_size (t := t0) (p := p.take (handM (wayM t0 p) (walkM t0 p).ref p.length).toNat)
   have k4 := fill_size hok (handM (wayM t0 p) (walkM t0 p).ref p.length).toNat p.length varM (Nat.le_refl _)
   have hsv : tsize varM = 1 := by simp [varM, tsize, tsizeL, csizeL]
   have k5 := hput [a, backM t0 p (handM (wayM t0 p) (walkM t0 p).ref p.length).toNat] b (fun v hv => by
    simp at hv
    rcases hv with rfl | rfl
    ·omega
    ·simp only [backM, tsize, tsizeL, csizeL]; omega) (by omega)
   have k6 := fill_size hok 0 (handM (wayM t0 p) (walkM t0 p).ref p.length).toNat (putM [a, backM t0 p (handM (wayM t0 p) (walkM t0 p).ref p.length).toNat] 0 b) (by omega)
   omega
  ·omega
 ·exact here _ hlet
end Go.Proofs.YtkcgkignhpepkaaGreatDoor

/- Runs. -/
namespace Go.Proofs.YtkcgkignhpepkaaGreatDoor
open Go Hs
variable {G : List (Nat × TypeId × Pu)}
theorem right_c (t : Tm) (hN : tsize t < 2^40) : FCall Tryz.prog G 113 [.pu (tmc 0 t)] (bv (checkM t 60 8 == 0)) := by
 refine FCall.of_tri tbl 6 Tryz.func113 rfl rfl rfl fun w0 M ρ0 D0 => ?_
 refine yR ?_;refine s_box SS 1 ?_;refine yB ?_;refine e_seqN [1] ?_;refine Y6 ?_;refine s_val (v_callD (fun _ => check_c t hN 60 8)) ?_;refine yI ?_;refine Y2 ?_;exact Tri.ret ⟨.inr rfl, ret1 rfl resV_tmp (ToPu.imp (by repeat constructor))⟩
structure EndM where
 kind : Int
 steps : Int
 term : Tm
 ref : List Int
 num : Int
def endP (e : EndM) : Pu := .agg 65 [.leaf (.int .i64 e.kind), .leaf (.int .i64 e.steps), tmc 0 e.term, refP e.ref, .leaf (.int .i64 e.num)]
instance (e : EndM) : TyV Tryz.prog 65 (.pu (endP e)) := inferInstanceAs (TyV Tryz.prog 65 (.pu (.agg _ _)))
def endZ : EndM := ⟨0, 0, noneM, Z32, 0⟩
def ranE (ts : List KT) (steps : Nat) (t : Tm) : Option EndM :=
 if valM t then some ⟨0, steps, t, Z32, 0⟩
 else if kindM ts t (placeM t) = 9 then some ⟨9, steps, ((walkM t (placeM t)).kids[0]?).getD noneM, (walkM t (placeM t)).ref, (walkM t (placeM t)).num⟩
 else if kindM ts t (placeM t) = 8 then some ⟨8, steps, noneM, Z32, 0⟩ else none
def nextM (ts : List KT) (t : Tm) : Tm := doesM ts t (placeM t) (kindM ts t (placeM t))
def ranM (ts : List KT) : Nat → Nat → Tm → EndM × Int
 | 0, steps, t => match ranE ts steps t with
  | some e => (e, 0)
  | none => (⟨10, steps, noneM, Z32, 0⟩, 0)
 | left + 1, steps, t => match ranE ts steps t with
  | some e => (e, 0)
  | none => if (longT 3000 200 1 0 (nextM ts t)).1 then (endZ, 12) else ranM ts left (steps + 1) (nextM ts t)
theorem ran_some {ts : List KT} {left steps : Nat} {t : Tm} {e : EndM} (h : ranE ts steps t = some e) : ranM ts left steps t = (e, 0) := by
 cases left <;> simp only [ranM, h]
abbrev ranV (x : EndM × Int) : PV := .tup [.pu (endP x.1), iv .i64 x.2]
set_option maxHeartbeats 4000000 in
theorem ran_c (a b : Pu) (ts : List KT) (hnd : (ts.map (·.1)).Nodup) (hl : ts.length < 2^40) (hbs : ∀ x ∈ ts, shT x.2) (hbz : ∀ x ∈ ts, tsize x.2 ≤ 300) (t0 : Tm) (hs0 : shT t0) (hz0 : tsize t0 ≤ 3000) (fuel : Nat) (hf : fuel ≤ 2000) :
  FCall Tryz.prog G 112 [.pu (wdP a b ts), .pu (tmc 0 t0), iv .i64 fuel] (ranV (ranM ts fuel 0 t0)) := by
 refine FCall.of_tri tbl 73 Tryz.func112 rfl rfl rfl fun w0 M ρ0 D0 => ?_
 refine Tri.fact (i := 0) rfl (fun D w x h => wd_wf h) (fun hts => ?_);refine yR ?_;refine s_box SS 3 ?_;refine s_box SS 4 ?_;refine s_alloc SS 6 ?_;refine yB ?_;refine e_seqN [3, 4, 6] ?_;refine Y6 ?_;refine s_call (opened_c a b ts hnd hl) ?_;refine yA ?_;refine e_seqN [822, 820, 823, 831, 832, 833, 834, 835, 836] ?_;refine Y12 ?_;refine yJ ?_;refine Y0 ?_
 refine Tri.block (Tri.loopW (σ := {q : Nat × Tm // q.1 ≤ fuel ∧ ranM ts fuel 0 t0 = ranM ts (fuel - q.1) q.1 q.2 ∧ shT q.2 ∧ tsize q.2 ≤ 3000}) (fun i => ⟨[(2, iv .i64 fuel), (4, .ptr 4 [] 32), (6, .ptr 6 [] 65), (8, .ptr 820 [] 181), (17, iv .i64 (fuel + 1)), (18, iv .i64 i.1.1)], [(4, .var 32 (.pu (tmc 0 i.1.2))), (6, .var 65 (.agg 65 [iv .i64 0, iv .i64 0, .agg 32 [iv .i64 0, iv .i64 0, .pu (refP Z32), .nilc, .nilc], .pu (refP Z32), iv .i64 0]))] ++ ruO a b ts⟩) (fun i => fuel - i.1.1) ⟨(0, t0), Nat.zero_le _, rfl, hs0, hz0⟩ ?_ ?_ (fun i => ?_))
 ·repeat (first | exact .nil | refine .cons rfl (by first | exact .refl | (focus ((repeat constructor); done)) | (rw [wrap64 (by omega) (by omega)]; exact .refl)) ?_)
 ·repeat (first | exact .nil | refine .cons rfl (by first | exact .refl | (focus ((repeat constructor); done)) | (rw [wrap64 (by omega) (by omega)]; exact .refl)) ?_)
 refine Y39 ?_;refine Tri.cond rfl (fun h0 => ?_) (fun h0 => ?_)
 ·skip
  obtain ⟨⟨st, t⟩, hst, hrn, hsh, hsz⟩ := i
  dsimp only at hst hrn hsh hsz ⊢
  have hok := place_ok hsh
  have hN : tsize t < 2^28 := by omega
  have hwl := way_len hok
  have hat := at_c (G := G) (placeM t) (wayM t (placeM t)) (by omega)
  have hwg := way_get hok (Nat.le_refl (placeM t).length)
  rw [List.take_length, List.getElem?_eq_getElem (by omega)] at hwg
  simp only [Option.some.injEq] at hwg
  rw [hwg] at hat
  have hwsh := sh_walk (p := placeM t) hsh
  have hkc := kind_c (G := G) a b ts hts t (placeM t) hok hN (by generalize walkM t (placeM t) = w at hwsh; obtain ⟨k, n, r, ks, cs⟩ := w; exact hwsh.1) (by generalize walkM t (placeM t) = w at hwsh; obtain ⟨k, n, r, ks, cs⟩ := w; exact hwsh.2.1)
  have hki := kind_inv (show kindW ts (wayM t (placeM t)) (placeM t).length (walkM t (placeM t)) = kindM ts t (placeM t) from rfl)
  generalize hkk : kindM ts t (placeM t) = kk at hkc hki
  refine Tri.skip ?_;refine tQ ?_;refine Tri.block ?_;refine Y75 ?_;refine Y6 ?_;refine s_val (v_callD (fun _ => value_c _ t (Nat.le_refl _) (by omega))) ?_;refine Y0 ?_;refine Tri.cond rfl (fun h1 => ?_) (fun h1 => ?_)
  ·skip
   have hfin : ranM ts fuel 0 t0 = (⟨0, st, t, Z32, 0⟩, 0) := by rw [hrn]; exact ran_some (by simp only [ranE, h1, if_true])
   refine Y1 ?_;refine yL ?_;refine yP ?_;refine Y53 ?_;exact Tri.ret ⟨.inr rfl, ret2 rfl resV_cell ((by rw [hfin]; exact ToPu.imp (by repeat constructor))) resV_tmp ((by rw [hfin]; exact VImp.refl _))⟩
  ·skip
   have hv : ¬ valM t = true := by rw [h1]; decide
   refine Tri.skip ?_;refine Y6 ?_;refine s_val (v_callD (fun _ => found_c t hsh (by omega))) ?_;refine s_alloc SS 10 ?_;refine yS ?_;refine e_seqN [10] ?_;refine Y1 ?_;refine yL ?_;refine s_val (v_callO (fun _ => hkc)) ?_;refine Y10 ?_;refine Y6 ?_;refine s_val (v_callD (fun _ => hat)) ?_;refine s_alloc SS 12 ?_;refine yS ?_;refine e_seqN [12] ?_;refine tQ ?_;refine Tri.block ?_;refine Y56 ?_;refine Tri.cond rfl (fun h2 => ?_) (fun h2 => ?_)
   ·skip
    have h9 : kk = 9 := by simpa using h2
    obtain ⟨x, hx⟩ := len1 hwsh (.inr (.inr (hki.2.2.2.2.2.2.2.2 h9)))
    have hfin : ranM ts fuel 0 t0 = (⟨9, st, x, (walkM t (placeM t)).ref, (walkM t (placeM t)).num⟩, 0) := by rw [hrn]; exact ran_some (by simp only [ranE, if_neg hv, hkk, h9, if_true, hx, Option.getD])
    generalize walkM t (placeM t) = w at hx hfin ⊢
    obtain ⟨k, n, r, ks, cs⟩ := w
    simp only [kids_mk, ref_mk, num_mk] at hx hfin
    have hxg : (tmsc 0 ks)[0]? = some (tmc 0 x) := by simp [tms_eq, hx]
    refine Y37 ?_;refine s_val (v_index SS (h0 := by omega) (hp := hxg)) ?_;refine yL ?_;refine Y49 ?_;refine yP ?_;refine yS ?_;refine yB ?_;refine Y38 ?_;exact Tri.ret ⟨.inr rfl, ret2 rfl resV_cell ((by rw [hfin]; exact ToPu.imp (by repeat constructor))) resV_tmp ((by rw [hfin]; exact VImp.refl _))⟩
   ·skip
    have h9 : ¬ kk = 9 := by simpa using h2
    refine Y56 ?_;refine Tri.cond rfl (fun h3 => ?_) (fun h3 => ?_)
    ·skip
     have h8 : kk = 8 := by simpa using h3
     have hfin : ranM ts fuel 0 t0 = (⟨8, st, noneM, Z32, 0⟩, 0) := by rw [hrn]; exact ran_some (by simp only [ranE, if_neg hv, hkk, h8]; rfl)
     refine Y1 ?_;refine yP ?_;refine Y53 ?_;exact Tri.ret ⟨.inr rfl, ret2 rfl resV_cell ((by rw [hfin]; exact ToPu.imp (by unfold noneM; repeat constructor))) resV_tmp ((by rw [hfin]; exact VImp.refl _))⟩
    ·skip
     have h8 : ¬ kk = 8 := by simpa using h3
     have hre : ranE ts st t = none := by simp only [ranE, if_neg hv, hkk, if_neg h9, if_neg h8]
     refine Y52 ?_;refine Y2 ?_;refine Tri.cond rfl (fun h4 => ?_) (fun h4 => ?_)
     ·skip
      have hsf : st = fuel := by simp at h4; omega
      have hfin : ranM ts fuel 0 t0 = (⟨10, st, noneM, Z32, 0⟩, 0) := by rw [hrn, show fuel - st = 0 by omega]; simp only [ranM, hre]
      refine Y1 ?_;refine yP ?_;refine Y53 ?_;exact Tri.ret ⟨.inr rfl, ret2 rfl resV_cell ((by rw [hfin]; exact ToPu.imp (by unfold noneM; repeat constructor))) resV_tmp ((by rw [hfin]; exact VImp.refl _))⟩
     ·skip
      have hsf : st < fuel := by simp at h4; omega
      obtain ⟨lf, hlf⟩ : ∃ lf, fuel - st = lf + 1 := ⟨fuel - st - 1, by omega⟩
      rw [hlf] at hrn
      simp only [ranM, hre] at hrn
      have hk19 := hki.2.2.2.2.2.2.2.1
      clear hki
      have hnx : nextM ts t = doesM ts t (placeM t) kk := by unfold nextM; rw [hkk]
      have hys := does_sh hbs hsh hok kk
      have hyz := does_sz hbz hok hsz kk
      rw [← hnx] at hys hyz
      obtain rfl | rfl | rfl | rfl | rfl | rfl | rfl : kk = 1 ∨ kk = 2 ∨ kk = 3 ∨ kk = 4 ∨ kk = 5 ∨ kk = 6 ∨ kk = 7 := by omega
      all_goals
       refine Tri.skip ?_;refine Y20 ?_;refine yY ?_;refine yF ?_;refine s_val (v_ixo SS) ?_;refine yL ?_;refine Y10 ?_;refine Y1 ?_;refine yL ?_
       first | refine s_val (v_callO (fun _ => does1_c hsh hok hN hkk)) ?_ | refine s_val (v_callO (fun _ => does2_c hsh hok hN hkk)) ?_ | refine s_val (v_callO (fun _ => does3_c a b hts hok hN hkk)) ?_ | refine s_val (v_callO (fun _ => does4_c hsh hok hN hkk)) ?_ | refine s_val (v_callO (fun _ => does5_c hsh hok hN hkk)) ?_ | refine s_val (v_callO (fun _ => does6_c hsh hok hN hkk)) ?_ | refine s_val (v_callO (fun _ => does7_c hsh hok hN hkk)) ?_
       refine Y16 ?_;rw [← hnx];refine Y50 ?_;refine s_box SS 91 ?_;refine yL ?_;refine s_call (grT_c _ (nextM ts t) (Nat.le_refl _) (by omega) 1 0 (by omega) (by omega)) ?_;refine e_seqN [91] ?_;refine tQ ?_;refine Tri.cond rfl (fun h5 => ?_) (fun h5 => ?_)
       ·skip
        have hfin : ranM ts fuel 0 t0 = (endZ, 12) := by rw [hrn, if_pos h5]
        refine Y50 ?_;refine Y53 ?_;exact Tri.ret ⟨.inr rfl, ret2 rfl resV_cell ((by rw [hfin]; exact ToPu.imp (by unfold endZ noneM; repeat constructor))) resV_tmp ((by rw [hfin]; exact VImp.refl _))⟩
       ·skip
        have hnext : ranM ts fuel 0 t0 = ranM ts (fuel - (st + 1)) (st + 1) (nextM ts t) := by rw [hrn, if_neg (by rw [h5]; decide), show fuel - (st + 1) = lf by omega]
        have hls := long_size (mn := 3000) (md := 200) (t := nextM ts t) (d := 1) (c := 0) (by omega) h5
        have hszy : tsize (nextM ts t) ≤ 3000 := by omega
        have hshy := hys
        refine Tri.skip ?_;refine Y30 ?_
        refine ⟨⟨(st + 1, nextM ts t), by show st + 1 ≤ fuel; omega, hnext, hshy, hszy⟩, by show fuel - (st + 1) < fuel - st; omega, le_of ?_ ?_⟩
        ·exact zE
        ·exact zH
 ·exfalso
  have := i.2.1
  simp at h0
  omega
end Go.Proofs.YtkcgkignhpepkaaGreatDoor

/- step.Run. -/
namespace Go.Proofs.YtkcgkignhpepkaaGreatDoor
open Go Hs
variable {G : List (Nat × TypeId × Pu)}
theorem firstE_zero {α : Type} {f : α → Int} : ∀ {l : List α}, firstE f l = 0 → ∀ x ∈ l, f x = 0
 | [], _, x, h => by cases h
 | a :: l, h, x, hx => by
  simp only [firstE] at h
  split at h
  ·rename_i h0
   rcases List.mem_cons.1 hx with rfl | hx
   ·exact h0
   ·exact firstE_zero h x hx
  ·contradiction
theorem stepCheck_ok {ts : List KT} {t : Tm} (h : stepCheckM ts t = 0) : ts.length ≤ 40 ∧ (∀ x ∈ ts, checkM x.2 0 0 = 0) ∧ (ts.map (·.1)).Nodup ∧ checkM t 0 0 = 0 := by
 unfold stepCheckM at h
 split at h
 ·cases h
 ·rename_i h1
  obtain ⟨h2, h3⟩ := orE_zero h
  split at h3
  ·cases h3
  ·rename_i h4
   exact ⟨by simp at h1; omega, firstE_zero h2, by simpa [dupM] using h4, h3⟩
theorem ranE_inv {ts : List KT} {steps : Nat} {t : Tm} {e : EndM} (hs : shT t) (h : ranE ts steps t = some e) : shT e.term ∧ tsize e.term ≤ tsize t := by
 have hn1 : tsize noneM = 1 := by simp [noneM, tsize, tsizeL, csizeL]
 have hp := tsize_pos t
 unfold ranE at h
 split at h
 ·simp at h; subst h; exact ⟨hs, Nat.le_refl _⟩
 ·split at h
  ·simp at h; subst h
   simp only
   cases hk : (walkM t (placeM t)).kids[0]? with
   | none => exact ⟨sh_none, by simp only [Option.getD]; omega⟩
   | some x =>
    have h1 := kid_size hk
    have h2 := walk_size (t := t) (p := placeM t)
    exact ⟨sh_kid (sh_walk hs) hk, by simp only [Option.getD]; omega⟩
  ·split at h
   ·simp at h; subst h; exact ⟨sh_none, by simp only; omega⟩
   ·cases h
theorem ran_inv {ts : List KT} (hbs : ∀ x ∈ ts, shT x.2) : ∀ (left steps : Nat) (t : Tm), shT t → tsize t ≤ 3000 → shT (ranM ts left steps t).1.term ∧ tsize (ranM ts left steps t).1.term ≤ 3000
 | 0, steps, t, hs, hz => by
  have hn1 : tsize noneM = 1 := by simp [noneM, tsize, tsizeL, csizeL]
  simp only [ranM]
  split
  ·rename_i e he
   have := ranE_inv hs he
   exact ⟨this.1, Nat.le_trans this.2 hz⟩
  ·exact ⟨sh_none, by simp only; omega⟩
 | left + 1, steps, t, hs, hz => by
  have hn1 : tsize noneM = 1 := by simp [noneM, tsize, tsizeL, csizeL]
  simp only [ranM]
  split
  ·rename_i e he
   have := ranE_inv hs he
   exact ⟨this.1, Nat.le_trans this.2 hz⟩
  ·split
   ·exact ⟨sh_none, by simp only [endZ]; omega⟩
   ·rename_i hg
    have hls := long_size (mn := 3000) (md := 200) (t := nextM ts t) (d := 1) (c := 0) (by omega) (by simpa using hg)
    exact ran_inv hbs left (steps + 1) (nextM ts t) (does_sh hbs hs (place_ok hs) _) (by omega)
def runM (ts : List KT) (t : Tm) (fuel : Int) : EndM × Int :=
 if stepCheckM ts t = 0 then
  if fuel < 0 ∨ 2000 < fuel then (endZ, 3)
  else if (ranM ts fuel.toNat 0 t).2 = 0 then
   if (ranM ts fuel.toNat 0 t).1.kind ≠ 0 ∧ (ranM ts fuel.toNat 0 t).1.kind ≠ 9 then ((ranM ts fuel.toNat 0 t).1, 0)
   else if checkM (ranM ts fuel.toNat 0 t).1.term 60 8 = 0 then ((ranM ts fuel.toNat 0 t).1, 0) else (endZ, 11)
  else (endZ, (ranM ts fuel.toNat 0 t).2)
 else (endZ, stepCheckM ts t)
set_option maxHeartbeats 1000000 in
theorem run_c (a b : Pu) (ts : List KT) (t : Tm) (fuel : Int) (hts : ∀ x ∈ ts, tsize x.2 < 2^40) (hN : tsize t < 2^40) : FCall Tryz.prog G 35 [.pu (wdP a b ts), .pu (tmc 0 t), iv .i64 fuel] (ranV (runM ts t fuel)) := by
 refine FCall.of_tri tbl 58 Tryz.func35 rfl rfl rfl fun w0 M ρ0 D0 => ?_
 refine yR ?_;refine s_box SS 3 ?_;refine s_box SS 4 ?_;refine s_alloc SS 6 ?_;refine yB ?_;refine e_seqN [3, 4, 6] ?_;refine Y33 ?_;refine s_val (v_callD (fun _ => stepCheck_c a b ts t hts hN)) ?_;refine Y47 ?_;refine Tri.cond rfl (fun h0 => ?_) (fun h0 => ?_)
 ·skip
  have h0' : ¬ stepCheckM ts t = 0 := by simpa using h0
  have hfin : runM ts t fuel = (endZ, stepCheckM ts t) := by simp only [runM, if_neg h0']
  refine Y50 ?_;refine yM ?_;refine yS ?_;refine Y2 ?_;exact Tri.ret ⟨.inr rfl, ret2 rfl resV_cell ((by rw [hfin]; exact ToPu.imp (by unfold endZ noneM; repeat constructor))) resV_tmp ((by rw [hfin]; exact VImp.refl _))⟩
 ·skip
  have h0' : stepCheckM ts t = 0 := by simpa using h0
  obtain ⟨k1, k2, k3, k4⟩ := stepCheck_ok h0'
  obtain ⟨k5, k6⟩ := check_sh k4
  refine Tri.skip ?_;refine Y44 ?_;refine Y59 ?_;refine Tri.cond rfl (fun h1 => ?_) (fun h1 => ?_)
  ·skip
   have h1' : fuel < 0 ∨ 2000 < fuel := by simpa using h1
   have hfin : runM ts t fuel = (endZ, 3) := by simp only [runM, if_pos h0', if_pos h1']
   refine Y50 ?_;refine Y53 ?_;exact Tri.ret ⟨.inr rfl, ret2 rfl resV_cell ((by rw [hfin]; exact ToPu.imp (by unfold endZ noneM; repeat constructor))) resV_tmp ((by rw [hfin]; exact VImp.refl _))⟩
  ·skip
   have h1' : ¬ (fuel < 0 ∨ 2000 < fuel) := by simp at h1; omega
   obtain ⟨fl, hfl⟩ : ∃ fl : Nat, fuel = fl := ⟨fuel.toNat, by omega⟩
   subst hfl
   have hran := ran_c (G := G) a b ts k3 (by omega) (fun x hx => (check_sh (k2 x hx)).1) (fun x hx => (check_sh (k2 x hx)).2) t k5 (by omega) fl (by omega)
   have hinv := ran_inv (ts := ts) (fun x hx => (check_sh (k2 x hx)).1) fl 0 t k5 (by omega)
   have hrun : runM ts t fl = if (ranM ts fl 0 t).2 = 0 then (if (ranM ts fl 0 t).1.kind ≠ 0 ∧ (ranM ts fl 0 t).1.kind ≠ 9 then ((ranM ts fl 0 t).1, 0) else if checkM (ranM ts fl 0 t).1.term 60 8 = 0 then ((ranM ts fl 0 t).1, 0) else (endZ, 11)) else (endZ, (ranM ts fl 0 t).2) := by simp only [runM, if_pos h0', if_neg h1', Int.toNat_natCast]
   generalize ranM ts fl 0 t = res at hran hinv hrun
   obtain ⟨⟨ek, es, et, er, en⟩, err⟩ := res
   simp only at hinv hrun
   refine Tri.skip ?_;refine Y33 ?_;refine yM ?_;refine s_val (v_callD (fun _ => hran)) ?_;refine Y35 ?_;refine s_alloc SS 9 ?_;refine yS ?_;refine yA ?_;refine e_seqN [9] ?_;refine tQ ?_;refine Tri.block ?_;refine Y56 ?_;refine Tri.cond rfl (fun h2 => ?_) (fun h2 => ?_)
   ·skip
    have h2' : ¬ err = 0 := by simpa using h2
    rw [if_neg h2'] at hrun
    refine Y50 ?_;refine yM ?_;refine yS ?_;refine Y2 ?_;exact Tri.ret ⟨.inr rfl, ret2 rfl resV_cell ((by rw [hrun]; exact ToPu.imp (by unfold endZ noneM; repeat constructor))) resV_tmp ((by rw [hrun]; exact VImp.refl _))⟩
   ·skip
    have h2' : err = 0 := by simpa using h2
    rw [if_pos h2'] at hrun
    refine Y41 ?_;refine Y51 ?_;refine Tri.cond rfl (fun h3 => ?_) (fun h3 => ?_)
    ·skip
     have h3' : ek ≠ 0 ∧ ek ≠ 9 := by simpa using h3
     rw [if_pos h3'] at hrun
     refine Y6 ?_;refine Y53 ?_;exact Tri.ret ⟨.inr rfl, ret2 rfl resV_cell ((by rw [hrun]; exact VImp.refl _)) resV_tmp ((by rw [hrun]; exact VImp.refl _))⟩
    ·skip
     have h3' : ¬ (ek ≠ 0 ∧ ek ≠ 9) := by simpa using h3
     rw [if_neg h3'] at hrun
     refine Y13 ?_;refine s_val (v_callD (fun _ => right_c et (by omega))) ?_;refine yQ ?_;refine Y2 ?_;refine Tri.cond rfl (fun h4 => ?_) (fun h4 => ?_)
     ·skip
      have h4' : ¬ checkM et 60 8 = 0 := by simpa using h4
      rw [if_neg h4'] at hrun
      refine Y50 ?_;refine Y53 ?_;exact Tri.ret ⟨.inr rfl, ret2 rfl resV_cell ((by rw [hrun]; exact ToPu.imp (by unfold endZ noneM; repeat constructor))) resV_tmp ((by rw [hrun]; exact VImp.refl _))⟩
     ·skip
      have h4' : checkM et 60 8 = 0 := by simpa using h4
      rw [if_pos h4'] at hrun
      refine Tri.skip ?_;refine Y13 ?_;refine s_val (v_callD (fun _ => (own_c et (by omega)).at (lowAt _))) ?_;refine Y58 ?_;refine Y6 ?_;refine Y53 ?_;exact Tri.ret ⟨.inr rfl, ret2 rfl resV_cell ((by rw [hrun]; exact VImp.refl _)) resV_tmp ((by rw [hrun]; exact VImp.refl _))⟩
end Go.Proofs.YtkcgkignhpepkaaGreatDoor

/- step.Next. -/
namespace Go.Proofs.YtkcgkignhpepkaaGreatDoor
open Go Hs
variable {G : List (Nat × TypeId × Pu)}
def stepNextM (ts : List KT) (t : Tm) : Int × List Nat × Int :=
 if stepCheckM ts t = 0 then (if valM t then (0, [], 0) else (kindM ts t (placeM t), placeM t, 0)) else (0, [], stepCheckM ts t)
abbrev nextV (x : Int × List Nat × Int) : PV := .tup [iv .i64 x.1, .pu (.sl 0 3 (pathL x.2.1)), iv .i64 x.2.2]
theorem stepNext_c (a b : Pu) (ts : List KT) (t : Tm) (hts : ∀ x ∈ ts, tsize x.2 < 2^40) (hN : tsize t < 2^40) : FCall Tryz.prog G 18 [.pu (wdP a b ts), .pu (tmc 0 t)] (nextV (stepNextM ts t)) := by
 refine FCall.of_tri tbl 25 Tryz.func18 rfl rfl rfl fun w0 M ρ0 D0 => ?_
 refine Tri.fact (i := 0) rfl (fun D w x h => wd_wf h) (fun hwd => ?_);refine yR ?_;refine s_box SS 2 ?_;refine s_box SS 3 ?_;refine yB ?_;refine yB ?_;refine yB ?_;refine e_seqN [2, 3] ?_;refine Y33 ?_;refine s_val (v_callD (fun _ => stepCheck_c a b ts t hts hN)) ?_;refine Y47 ?_;refine Tri.cond rfl (fun h0 => ?_) (fun h0 => ?_)
 ·skip
  have h0' : ¬ stepCheckM ts t = 0 := by simpa using h0
  have hfin : stepNextM ts t = (0, [], stepCheckM ts t) := by simp only [stepNextM, if_neg h0']
  refine Y1 ?_;refine yB ?_;refine yB ?_;refine Y2 ?_;exact Tri.ret ⟨.inr rfl, ret3 rfl resV_tmp ((by rw [hfin]; exact VImp.refl _)) resV_tmp ((by rw [hfin]; exact ToPu.imp (by repeat constructor))) resV_tmp ((by rw [hfin]; exact VImp.refl _))⟩
 ·skip
  have h0' : stepCheckM ts t = 0 := by simpa using h0
  obtain ⟨k1, k2, k3, k4⟩ := stepCheck_ok h0'
  obtain ⟨k5, k6⟩ := check_sh k4
  refine Tri.skip ?_;refine Y6 ?_;refine s_val (v_callD (fun _ => value_c _ t (Nat.le_refl _) (by omega))) ?_;refine Y0 ?_;refine Tri.cond rfl (fun h1 => ?_) (fun h1 => ?_)
  ·skip
   have hfin : stepNextM ts t = (0, [], 0) := by simp only [stepNextM, if_pos h0', h1, if_true]
   refine Y3 ?_;refine yB ?_;refine Y26 ?_;exact Tri.ret ⟨.inr rfl, ret3 rfl resV_tmp ((by rw [hfin]; exact VImp.refl _)) resV_tmp ((by rw [hfin]; exact ToPu.imp (by repeat constructor))) resV_tmp ((by rw [hfin]; exact VImp.refl _))⟩
  ·skip
   have hfin : stepNextM ts t = (kindM ts t (placeM t), placeM t, 0) := by simp only [stepNextM, if_pos h0', h1, Bool.false_eq_true, if_false]
   have hok := place_ok k5
   have hN' : tsize t < 2^28 := by omega
   have hwsh := sh_walk (p := placeM t) k5
   have hkc := kind_c (G := G) a b ts hwd t (placeM t) hok hN' (by generalize walkM t (placeM t) = w at hwsh; obtain ⟨k, n, r, ks, cs⟩ := w; exact hwsh.1) (by generalize walkM t (placeM t) = w at hwsh; obtain ⟨k, n, r, ks, cs⟩ := w; exact hwsh.2.1)
   refine Tri.skip ?_;refine Y6 ?_;refine s_val (v_callD (fun _ => found_c t k5 (by omega))) ?_;refine s_alloc SS 8 ?_;refine yS ?_;refine e_seqN [8] ?_;refine Y6 ?_;refine s_call (opened_c a b ts k3 (by omega)) ?_;refine yL ?_;refine s_val (v_callO (fun _ => hkc)) ?_;refine Y7 ?_;refine yA ?_;refine yA ?_;refine yB ?_;refine e_drawN [822, 820, 823, 831, 832, 833, 834, 835, 836] ?_;refine tQ ?_;exact Tri.ret ⟨.inr rfl, ret3 rfl resV_tmp ((by rw [hfin]; exact VImp.refl _)) resV_tmp ((by rw [hfin]; exact VImp.refl _)) resV_tmp ((by rw [hfin]; exact VImp.refl _))⟩
end Go.Proofs.YtkcgkignhpepkaaGreatDoor

/- Terms that are the same. -/
namespace Go.Proofs.YtkcgkignhpepkaaGreatDoor
open Go Hs
variable {G : List (Nat × TypeId × Pu)}
def eqLM {α : Type} (φ : α → α → Bool) : List α → List α → Bool
 | [], [] => true
 | a :: l, b :: m => φ a b && eqLM φ l m
 | _, _ => false
theorem eqLM_len {α : Type} {φ : α → α → Bool} : ∀ {l m : List α}, l.length ≠ m.length → eqLM φ l m = false
 | [], [], h => by simp at h
 | [], _ :: _, _ => rfl
 | _ :: _, [], _ => rfl
 | a :: l, b :: m, h => by simp only [eqLM, eqLM_len (l := l) (m := m) (by simpa using h), Bool.and_false]
theorem eqLM_take {α : Type} {φ : α → α → Bool} : ∀ {l m : List α} {i : Nat} (h : i < l.length) (h2 : i < m.length), eqLM φ (l.take (i + 1)) (m.take (i + 1)) = (eqLM φ (l.take i) (m.take i) && φ l[i] m[i])
 | a :: l, b :: m, 0, _, _ => by simp [eqLM]
 | a :: l, b :: m, i + 1, h, h2 => by
  have h' : i < l.length := by simpa using h
  have h2' : i < m.length := by simpa using h2
  have := eqLM_take (φ := φ) h' h2'
  simp only [List.take_succ_cons, eqLM, List.getElem_cons_succ, this, Bool.and_assoc]
theorem eqLM_stop {α : Type} {φ : α → α → Bool} : ∀ {l m : List α} {i : Nat}, eqLM φ (l.take i) (m.take i) = false → eqLM φ l m = false
 | [], [], i, h => by simp [eqLM] at h
 | [], _ :: _, i, h => rfl
 | _ :: _, [], i, h => rfl
 | a :: l, b :: m, 0, h => by simp [eqLM] at h
 | a :: l, b :: m, i + 1, h => by
  simp only [List.take_succ_cons, eqLM] at h ⊢
  cases hp : φ a b
  ·rfl
  ·rw [hp] at h
   simp only [Bool.true_and] at h ⊢
   exact eqLM_stop h
theorem eqfPat_c (f : FuncId) (he : entersB Tryz.prog f = true) (φ : Pat → Pat → Bool) (l m : List Pat) (hl : l.length < 2^40) (hm : m.length < 2^40) (h : ∀ i (h1 : i < l.length) (h2 : i < m.length), FCall Tryz.prog G f [.pu (patc 0 l[i]), .pu (patc 0 m[i])] (bv (φ l[i] m[i]))) :
  FCall Tryz.prog G 166 [.pu (.sl 0 104 (patsc 0 l)), .pu (.sl 0 104 (patsc 0 m)), fV f] (bv (eqLM φ l m)) := by
 refine FCall.of_tri tbl 32 Tryz.func166 rfl rfl rfl fun w0 M ρ0 D0 => ?_
 refine Y48 ?_;refine yC ?_;refine yM ?_;refine Y31 ?_;refine Tri.cond rfl (fun h0 => ?_) (fun h0 => ?_)
 ·skip
  have hf : eqLM φ l m = false := eqLM_len (by rw [pats_length, pats_length] at h0; simp at h0; omega)
  refine Y8 ?_;exact Tri.ret ⟨.inr rfl, ret1 rfl resV_tmp (bv_imp hf.symm)⟩
 ·skip
  have hlm : l.length = m.length := by rw [pats_length, pats_length] at h0; simp at h0; omega
  refine Tri.skip ?_;refine Y1 ?_;refine Y36 ?_;refine Tri.block (Tri.loopW (σ := {i : Nat // eqLM φ (l.take i) (m.take i) = true}) (fun i => ⟨[(1, .pu (.sl 0 104 (patsc 0 m))), (2, fV f), (15, .pu (.sl 0 104 (patsc 0 l))), (16, iv .i64 (patsc 0 l).length), (17, iv .i64 i.1)], []⟩) (fun i => l.length - i.1) ⟨0, by simp [eqLM]⟩ ?_ ?_ (fun i => ?_))
  ·exact zW
  ·exact zW
  refine Y39 ?_;refine Tri.cond rfl (fun h1 => ?_) (fun h1 => ?_)
  ·skip
   have hi : i.1 < l.length := by rw [pats_length] at h1; simpa using h1
   have hi2 : i.1 < m.length := by omega
   have htk := eqLM_take (φ := φ) hi hi2
   rw [i.2, Bool.true_and] at htk
   refine Tri.skip ?_;refine tQ ?_;refine Tri.block ?_;refine Y1 ?_;refine s_val (v_index SS (h0 := by omega) (hp := pats_get hi)) ?_;refine yL ?_;refine s_alloc SS 8 ?_;refine yA ?_;refine yS ?_;refine e_seqN [8] ?_;refine Y20 ?_;refine s_val (v_index SS (h0 := by omega) (hp := pats_get hi2)) ?_;refine yL ?_;refine s_alloc SS 9 ?_;refine yS ?_;refine e_seqN [9] ?_;refine Y1 ?_;refine Y68 ?_;refine s_val (v_callO (fun _ => h i.1 hi hi2) (he := he)) ?_;refine Y74 ?_;refine Tri.cond rfl (fun h2 => ?_) (fun h2 => ?_)
   ·skip
    have hf : eqLM φ l m = false := eqLM_stop (i := i.1 + 1) (by rw [htk]; simpa using h2)
    refine Y8 ?_;exact Tri.ret ⟨.inr rfl, ret1 rfl resV_tmp (bv_imp hf.symm)⟩
   ·skip
    have hnext : eqLM φ (l.take (i.1 + 1)) (m.take (i.1 + 1)) = true := by rw [htk]; simpa using h2
    refine Tri.skip ?_;refine Y30 ?_
    refine ⟨⟨i.1 + 1, hnext⟩, by show l.length - (i.1 + 1) < l.length - i.1; omega, le_of ?_ ?_⟩
    ·exact zE
    ·exact zH
  ·skip
   have hf : eqLM φ l m = true := by
    have := i.2
    rwa [List.take_of_length_le (by rw [pats_length] at h1; simp at h1; omega), List.take_of_length_le (by rw [pats_length] at h1; simp at h1; omega)] at this
   refine Tri.exit ?_;refine Y8 ?_;exact Tri.ret ⟨.inr rfl, ret1 rfl resV_tmp (bv_imp hf.symm)⟩
theorem eqfTm_c (f : FuncId) (he : entersB Tryz.prog f = true) (φ : Tm → Tm → Bool) (l m : List Tm) (hl : l.length < 2^40) (hm : m.length < 2^40) (h : ∀ i (h1 : i < l.length) (h2 : i < m.length), FCall Tryz.prog G f [.pu (tmc 0 l[i]), .pu (tmc 0 m[i])] (bv (φ l[i] m[i]))) :
  FCall Tryz.prog G 118 [.pu (.sl 0 32 (tmsc 0 l)), .pu (.sl 0 32 (tmsc 0 m)), fV f] (bv (eqLM φ l m)) := by
 refine FCall.of_tri tbl 32 Tryz.func118 rfl rfl rfl fun w0 M ρ0 D0 => ?_
 refine Y48 ?_;refine yC ?_;refine yM ?_;refine Y31 ?_;refine Tri.cond rfl (fun h0 => ?_) (fun h0 => ?_)
 ·skip
  have hf : eqLM φ l m = false := eqLM_len (by rw [tms_length, tms_length] at h0; simp at h0; omega)
  refine Y8 ?_;exact Tri.ret ⟨.inr rfl, ret1 rfl resV_tmp (bv_imp hf.symm)⟩
 ·skip
  have hlm : l.length = m.length := by rw [tms_length, tms_length] at h0; simp at h0; omega
  refine Tri.skip ?_;refine Y1 ?_;refine Y36 ?_;refine Tri.block (Tri.loopW (σ := {i : Nat // eqLM φ (l.take i) (m.take i) = true}) (fun i => ⟨[(1, .pu (.sl 0 32 (tmsc 0 m))), (2, fV f), (15, .pu (.sl 0 32 (tmsc 0 l))), (16, iv .i64 (tmsc 0 l).length), (17, iv .i64 i.1)], []⟩) (fun i => l.length - i.1) ⟨0, by simp [eqLM]⟩ ?_ ?_ (fun i => ?_))
  ·exact zW
  ·exact zW
  refine Y39 ?_;refine Tri.cond rfl (fun h1 => ?_) (fun h1 => ?_)
  ·skip
   have hi : i.1 < l.length := by rw [tms_length] at h1; simpa using h1
   have hi2 : i.1 < m.length := by omega
   have htk := eqLM_take (φ := φ) hi hi2
   rw [i.2, Bool.true_and] at htk
   refine Tri.skip ?_;refine tQ ?_;refine Tri.block ?_;refine Y1 ?_;refine s_val (v_index SS (h0 := by omega) (hp := tms_get hi)) ?_;refine yL ?_;refine s_alloc SS 8 ?_;refine yA ?_;refine yS ?_;refine e_seqN [8] ?_;refine Y20 ?_;refine s_val (v_index SS (h0 := by omega) (hp := tms_get hi2)) ?_;refine yL ?_;refine s_alloc SS 9 ?_;refine yS ?_;refine e_seqN [9] ?_;refine Y1 ?_;refine Y68 ?_;refine s_val (v_callO (fun _ => h i.1 hi hi2) (he := he)) ?_;refine Y74 ?_;refine Tri.cond rfl (fun h2 => ?_) (fun h2 => ?_)
   ·skip
    have hf : eqLM φ l m = false := eqLM_stop (i := i.1 + 1) (by rw [htk]; simpa using h2)
    refine Y8 ?_;exact Tri.ret ⟨.inr rfl, ret1 rfl resV_tmp (bv_imp hf.symm)⟩
   ·skip
    have hnext : eqLM φ (l.take (i.1 + 1)) (m.take (i.1 + 1)) = true := by rw [htk]; simpa using h2
    refine Tri.skip ?_;refine Y30 ?_
    refine ⟨⟨i.1 + 1, hnext⟩, by show l.length - (i.1 + 1) < l.length - i.1; omega, le_of ?_ ?_⟩
    ·exact zE
    ·exact zH
  ·skip
   have hf : eqLM φ l m = true := by
    have := i.2
    rwa [List.take_of_length_le (by rw [tms_length] at h1; simp at h1; omega), List.take_of_length_le (by rw [tms_length] at h1; simp at h1; omega)] at this
   refine Tri.exit ?_;refine Y8 ?_;exact Tri.ret ⟨.inr rfl, ret1 rfl resV_tmp (bv_imp hf.symm)⟩
theorem eqfCs_c (f : FuncId) (he : entersB Tryz.prog f = true) (φ : Cs → Cs → Bool) (l m : List Cs) (hl : l.length < 2^40) (hm : m.length < 2^40) (h : ∀ i (h1 : i < l.length) (h2 : i < m.length), FCall Tryz.prog G f [.pu (csec 0 l[i]), .pu (csec 0 m[i])] (bv (φ l[i] m[i]))) :
  FCall Tryz.prog G 97 [.pu (.sl 0 106 (cssc 0 l)), .pu (.sl 0 106 (cssc 0 m)), fV f] (bv (eqLM φ l m)) := by
 refine FCall.of_tri tbl 32 Tryz.func97 rfl rfl rfl fun w0 M ρ0 D0 => ?_
 refine Y48 ?_;refine yC ?_;refine yM ?_;refine Y31 ?_;refine Tri.cond rfl (fun h0 => ?_) (fun h0 => ?_)
 ·skip
  have hf : eqLM φ l m = false := eqLM_len (by rw [css_length, css_length] at h0; simp at h0; omega)
  refine Y8 ?_;exact Tri.ret ⟨.inr rfl, ret1 rfl resV_tmp (bv_imp hf.symm)⟩
 ·skip
  have hlm : l.length = m.length := by rw [css_length, css_length] at h0; simp at h0; omega
  refine Tri.skip ?_;refine Y1 ?_;refine Y36 ?_;refine Tri.block (Tri.loopW (σ := {i : Nat // eqLM φ (l.take i) (m.take i) = true}) (fun i => ⟨[(1, .pu (.sl 0 106 (cssc 0 m))), (2, fV f), (15, .pu (.sl 0 106 (cssc 0 l))), (16, iv .i64 (cssc 0 l).length), (17, iv .i64 i.1)], []⟩) (fun i => l.length - i.1) ⟨0, by simp [eqLM]⟩ ?_ ?_ (fun i => ?_))
  ·exact zW
  ·exact zW
  refine Y39 ?_;refine Tri.cond rfl (fun h1 => ?_) (fun h1 => ?_)
  ·skip
   have hi : i.1 < l.length := by rw [css_length] at h1; simpa using h1
   have hi2 : i.1 < m.length := by omega
   have htk := eqLM_take (φ := φ) hi hi2
   rw [i.2, Bool.true_and] at htk
   refine Tri.skip ?_;refine tQ ?_;refine Tri.block ?_;refine Y1 ?_;refine s_val (v_index SS (h0 := by omega) (hp := css_get hi)) ?_;refine yL ?_;refine s_alloc SS 8 ?_;refine yA ?_;refine yS ?_;refine e_seqN [8] ?_;refine Y20 ?_;refine s_val (v_index SS (h0 := by omega) (hp := css_get hi2)) ?_;refine yL ?_;refine s_alloc SS 9 ?_;refine yS ?_;refine e_seqN [9] ?_;refine Y1 ?_;refine Y68 ?_;refine s_val (v_callO (fun _ => h i.1 hi hi2) (he := he)) ?_;refine Y74 ?_;refine Tri.cond rfl (fun h2 => ?_) (fun h2 => ?_)
   ·skip
    have hf : eqLM φ l m = false := eqLM_stop (i := i.1 + 1) (by rw [htk]; simpa using h2)
    refine Y8 ?_;exact Tri.ret ⟨.inr rfl, ret1 rfl resV_tmp (bv_imp hf.symm)⟩
   ·skip
    have hnext : eqLM φ (l.take (i.1 + 1)) (m.take (i.1 + 1)) = true := by rw [htk]; simpa using h2
    refine Tri.skip ?_;refine Y30 ?_
    refine ⟨⟨i.1 + 1, hnext⟩, by show l.length - (i.1 + 1) < l.length - i.1; omega, le_of ?_ ?_⟩
    ·exact zE
    ·exact zH
  ·skip
   have hf : eqLM φ l m = true := by
    have := i.2
    rwa [List.take_of_length_le (by rw [css_length] at h1; simp at h1; omega), List.take_of_length_le (by rw [css_length] at h1; simp at h1; omega)] at this
   refine Tri.exit ?_;refine Y8 ?_;exact Tri.ret ⟨.inr rfl, ret1 rfl resV_tmp (bv_imp hf.symm)⟩
mutual
def sameP : Pat → Pat → Bool
 | .mk k n r ks, .mk k' n' r' ks' => (k == k' && n == n' && r == r') && samePs ks ks'
def samePs : List Pat → List Pat → Bool
 | [], [] => true
 | p :: ps, q :: qs => sameP p q && samePs ps qs
 | _, _ => false
end
theorem samePs_eq : ∀ l m, samePs l m = eqLM sameP l m
 | [], [] => rfl
 | [], _ :: _ => rfl
 | _ :: _, [] => rfl
 | p :: ps, q :: qs => by simp only [samePs, eqLM, samePs_eq ps qs]
mutual
def sameT : Tm → Tm → Bool
 | .mk k n r ks cs, .mk k' n' r' ks' cs' => (k == k' && n == n' && r == r') && sameTs ks ks' && sameCs cs cs'
def sameTs : List Tm → List Tm → Bool
 | [], [] => true
 | p :: ps, q :: qs => sameT p q && sameTs ps qs
 | _, _ => false
def sameCs : List Cs → List Cs → Bool
 | [], [] => true
 | p :: ps, q :: qs => sameC p q && sameCs ps qs
 | _, _ => false
def sameC : Cs → Cs → Bool
 | .mk p t, .mk q u => sameP p q && sameT t u
end
theorem sameTs_eq : ∀ l m, sameTs l m = eqLM sameT l m
 | [], [] => by simp [sameTs, eqLM]
 | [], _ :: _ => by simp [sameTs, eqLM]
 | _ :: _, [] => by simp [sameTs, eqLM]
 | p :: ps, q :: qs => by simp only [sameTs, eqLM, sameTs_eq ps qs]
theorem sameCs_eq : ∀ l m, sameCs l m = eqLM sameC l m
 | [], [] => by simp [sameCs, eqLM]
 | [], _ :: _ => by simp [sameCs, eqLM]
 | _ :: _, [] => by simp [sameCs, eqLM]
 | p :: ps, q :: qs => by simp only [sameCs, eqLM, sameCs_eq ps qs]
theorem sameP_c : ∀ (N : Nat) (p q : Pat), psize p ≤ N → N < 2^40 → psize q < 2^40 → FCall Tryz.prog G 99 [.pu (patc 0 p), .pu (patc 0 q)] (bv (sameP p q)) := by
 intro N
 induction N with
 | zero => intro p q h; cases p; simp [psize] at h
 | succ N ih =>
 intro p q hp hN hq
 obtain ⟨k, n, r, ks⟩ := p
 obtain ⟨k', n', r', ks'⟩ := q
 simp only [psize] at hp hq
 have hlen := length_psizeL ks
 have hlen' := length_psizeL ks'
 refine FCall.of_tri tbl 31 Tryz.func99 rfl rfl rfl fun w0 M ρ0 D0 => ?_
 refine Tri.fact (i := 0) rfl (fun D w x h => pat_wf h) (fun hr => ?_);refine Tri.fact (i := 1) rfl (fun D w x h => pat_wf h) (fun hr' => ?_)
 simp only [wfP] at hr hr'
 refine yR ?_;refine s_box SS 2 ?_;refine s_box SS 3 ?_;refine yB ?_;refine e_seqN [2, 3] ?_;refine Y13 ?_;refine Y40 ?_;refine Y25 ?_;refine Y17 ?_;refine Y25 ?_;refine s_gg zG (v_bin SS (h := bin_eqS (hr.1.trans hr'.1.symm))) ?_;refine yN ?_;refine Y25 ?_;refine s_gg zG (v_callD (fun _ => eqfPat_c 99 (by kernel_rfl) sameP ks ks' (by omega) (by omega) (fun i h1 h2 => ih _ _ (by have := psizeL_get h1; omega) (by omega) (by have := psizeL_get h2; omega)))) ?_;refine yN ?_;refine Y2 ?_;exact Tri.ret ⟨.inr rfl, ret1 rfl resV_tmp (bv_imp (by simp only [sameP, samePs_eq]))⟩
theorem sameC_c (c d : Cs) (hp : csize c < 2^40) (hq : csize d < 2^40) (h : FCall Tryz.prog G 23 [.pu (tmc 0 (csT c)), .pu (tmc 0 (csT d))] (bv (sameT (csT c) (csT d)))) : FCall Tryz.prog G 98 [.pu (csec 0 c), .pu (csec 0 d)] (bv (sameC c d)) := by
 obtain ⟨p, t⟩ := c
 obtain ⟨q, u⟩ := d
 simp only [csT, csize] at h hp hq
 refine FCall.of_tri tbl 17 Tryz.func98 rfl rfl rfl fun w0 M ρ0 D0 => ?_
 refine yR ?_;refine s_box SS 2 ?_;refine s_box SS 3 ?_;refine yB ?_;refine e_seqN [2, 3] ?_;refine Y13 ?_;refine Y4 ?_;refine s_val (v_callD (fun _ => sameP_c _ p q (Nat.le_refl _) (by omega) (by omega))) ?_;refine Y25 ?_;refine s_gg zG (v_callD (fun _ => h)) ?_;refine yN ?_;refine Y2 ?_;exact Tri.ret ⟨.inr rfl, ret1 rfl resV_tmp (bv_imp (by simp only [sameC]))⟩
theorem sameTs_c (l m : List Tm) (hl : l.length < 2^40) (hm : m.length < 2^40) (h : ∀ i (h1 : i < l.length) (h2 : i < m.length), FCall Tryz.prog G 23 [.pu (tmc 0 l[i]), .pu (tmc 0 m[i])] (bv (sameT l[i] m[i]))) : FCall Tryz.prog G 50 [.pu (.sl 0 32 (tmsc 0 l)), .pu (.sl 0 32 (tmsc 0 m))] (bv (sameTs l m)) := by
 refine FCall.of_tri tbl 8 Tryz.func50 rfl rfl rfl fun w0 M ρ0 D0 => ?_
 refine Y19 ?_;refine Y20 ?_;refine s_val (v_callD (fun _ => eqfTm_c 23 (by kernel_rfl) sameT l m hl hm h)) ?_;refine Y2 ?_;exact Tri.ret ⟨.inr rfl, ret1 rfl resV_tmp (bv_imp (by rw [sameTs_eq]))⟩
theorem sameT_c : ∀ (N : Nat) (t u : Tm), tsize t ≤ N → N < 2^40 → tsize u < 2^40 → FCall Tryz.prog G 23 [.pu (tmc 0 t), .pu (tmc 0 u)] (bv (sameT t u)) := by
 intro N
 induction N with
 | zero => intro t u h; have := tsize_pos t; omega
 | succ N ih =>
 intro t u hp hN hq
 obtain ⟨k, n, r, ks, cs⟩ := t
 obtain ⟨k', n', r', ks', cs'⟩ := u
 simp only [tsize] at hp hq
 have hlen := length_tsizeL ks
 have hlen' := length_tsizeL ks'
 have hlc := length_csizeL cs
 have hlc' := length_csizeL cs'
 refine FCall.of_tri tbl 38 Tryz.func23 rfl rfl rfl fun w0 M ρ0 D0 => ?_
 refine Tri.fact (i := 0) rfl (fun D w x h => tm_wf h) (fun hr => ?_);refine Tri.fact (i := 1) rfl (fun D w x h => tm_wf h) (fun hr' => ?_)
 simp only [wfT] at hr hr'
 have hcs : ∀ i (h1 : i < cs.length) (h2 : i < cs'.length), FCall Tryz.prog G 98 [.pu (csec 0 cs[i]), .pu (csec 0 cs'[i])] (bv (sameC cs[i] cs'[i])) := fun i h1 h2 => by
  have s1 := csizeL_get h1
  have s2 := csizeL_get h2
  generalize cs[i] = c at s1 ⊢
  generalize cs'[i] = d at s2 ⊢
  refine sameC_c c d (by omega) (by omega) ?_
  obtain ⟨p, t⟩ := c
  obtain ⟨q, u⟩ := d
  simp only [csize, csT] at s1 s2 ⊢
  exact ih t u (by omega) (by omega) (by omega)
 refine yR ?_;refine s_box SS 2 ?_;refine s_box SS 3 ?_;refine yB ?_;refine e_seqN [2, 3] ?_;refine Y13 ?_;refine Y40 ?_;refine Y25 ?_;refine Y17 ?_;refine Y25 ?_;refine s_gg zG (v_bin SS (h := bin_eqS (hr.1.trans hr'.1.symm))) ?_;refine yN ?_;refine Y25 ?_;refine s_gg zG (v_callD (fun _ => sameTs_c ks ks' (by omega) (by omega) (fun i h1 h2 => ih _ _ (by have := tsizeL_get h1; omega) (by omega) (by have := tsizeL_get h2; omega)))) ?_;refine yN ?_;refine Y25 ?_;refine s_gg zG (v_callD (fun _ => eqfCs_c 98 (by kernel_rfl) sameC cs cs' (by omega) (by omega) hcs)) ?_;refine yN ?_;refine Y2 ?_
 exact Tri.ret ⟨.inr rfl, ret1 rfl resV_tmp (bv_imp (by simp only [sameT, sameCs_eq]))⟩
mutual
theorem sameP_refl : ∀ p : Pat, sameP p p = true
 | .mk k n r ks => by simp [sameP, samePs_refl ks]
theorem samePs_refl : ∀ ps : List Pat, samePs ps ps = true
 | [] => rfl
 | p :: ps => by simp [samePs, sameP_refl p, samePs_refl ps]
end
mutual
theorem sameT_refl : ∀ t : Tm, sameT t t = true
 | .mk k n r ks cs => by simp [sameT, sameTs_refl ks, sameCs_refl cs]
theorem sameTs_refl : ∀ ts : List Tm, sameTs ts ts = true
 | [] => by simp [sameTs]
 | t :: ts => by simp [sameTs, sameT_refl t, sameTs_refl ts]
theorem sameCs_refl : ∀ cs : List Cs, sameCs cs cs = true
 | [] => by simp [sameCs]
 | c :: cs => by simp [sameCs, sameC_refl c, sameCs_refl cs]
theorem sameC_refl : ∀ c : Cs, sameC c c = true
 | .mk p t => by simp [sameC, sameP_refl p, sameT_refl t]
end
end Go.Proofs.YtkcgkignhpepkaaGreatDoor

/- The usual world. -/
namespace Go.Proofs.YtkcgkignhpepkaaGreatDoor
open Go Hs
def sumR (n : Int) : List Int := n :: List.replicate 31 0
def gA : List (Nat × TypeId × Pu) := [(0, 28, refP (sumR 11)), (4, 28, refP (sumR 21))]
section
variable {G : List (Nat × TypeId × Pu)}
theorem Ha_c (r : List Int) (ks : List Tm) : FCall Tryz.prog G 37 [.pu (refP r), .pu (.sl 0 32 (tmsc 0 ks))] (.pu (tmc 0 (.mk 12 0 r ks []))) := by
 refine FCall.of_tri tbl 8 Tryz.func37 rfl rfl rfl fun w0 M ρ0 D0 => ?_
 refine yR ?_;refine s_box SS 2 ?_;refine s_alloc SS 4 ?_;refine e_seqN [2, 4] ?_;refine Y54 ?_;refine Y71 ?_;exact Tri.ret ⟨.inr rfl, ret1 rfl resV_cell (ToPu.imp (by repeat constructor))⟩
end
def vaM (n : Int) : Tm := .mk 1 n Z32 [] []
def nuM (n : Int) : Tm := .mk 2 n Z32 [] []
def laM (t : Tm) : Tm := .mk 3 0 Z32 [t] []
def apM (s t : Tm) : Tm := .mk 4 0 Z32 [s, t] []
def deM (r : List Int) : Tm := .mk 6 0 r [] []
def prM (n : Int) (s t : Tm) : Tm := .mk 10 n Z32 [s, t] []
end Go.Proofs.YtkcgkignhpepkaaGreatDoor

/- The chapter's examples. -/
namespace Go.Proofs.YtkcgkignhpepkaaGreatDoor
open Go Hs
theorem eqPath_c {G : List (Nat × TypeId × Pu)} (l m : List Nat) (hl : l.length < 2^40) (hm : m.length < 2^40) : FCall Tryz.prog G 20 [.pu (.sl 0 3 (pathL l)), .pu (.sl 0 3 (pathL m))] (bv (eqLM (fun a b : Nat => (a : Int) == (b : Int)) l m)) := by
 refine FCall.of_tri tbl 26 Tryz.func20 rfl rfl rfl fun w0 M ρ0 D0 => ?_
 refine Y48 ?_;refine yC ?_;refine yM ?_;refine Y31 ?_;refine Tri.cond rfl (fun h0 => ?_) (fun h0 => ?_)
 ·skip
  have hf : eqLM (fun a b : Nat => (a : Int) == (b : Int)) l m = false := eqLM_len (by rw [path_len, path_len] at h0; simp at h0; omega)
  refine Y8 ?_;exact Tri.ret ⟨.inr rfl, ret1 rfl resV_tmp (bv_imp hf.symm)⟩
 ·skip
  have hlm : l.length = m.length := by rw [path_len, path_len] at h0; simp at h0; omega
  refine Tri.skip ?_;refine Y1 ?_;refine Y36 ?_;refine Tri.block (Tri.loopW (σ := {i : Nat // eqLM (fun a b : Nat => (a : Int) == (b : Int)) (l.take i) (m.take i) = true}) (fun i => ⟨[(0, .pu (.sl 0 3 (pathL l))), (1, .pu (.sl 0 3 (pathL m))), (12, iv .i64 (pathL l).length), (13, iv .i64 i.1)], []⟩) (fun i => l.length - i.1) ⟨0, by simp [eqLM]⟩ ?_ ?_ (fun i => ?_))
  ·exact zW
  ·exact zW
  refine Y39 ?_;refine Tri.cond rfl (fun h1 => ?_) (fun h1 => ?_)
  ·skip
   have hi : i.1 < l.length := by rw [path_len] at h1; simpa using h1
   have hi2 : i.1 < m.length := by omega
   have htk := eqLM_take (φ := fun a b : Nat => (a : Int) == (b : Int)) hi hi2
   rw [i.2, Bool.true_and] at htk
   refine Tri.skip ?_;refine tQ ?_;refine Tri.block ?_;refine Y75 ?_;refine Y20 ?_;refine s_val (v_index SS (h0 := by omega) (hp := path_get hi)) ?_;refine yL ?_;refine Y42 ?_;refine s_val (v_index SS (h0 := by omega) (hp := path_get hi2)) ?_;refine yL ?_;refine yI ?_;refine Y38 ?_;refine Tri.cond rfl (fun h2 => ?_) (fun h2 => ?_)
   ·skip
    have hf : eqLM (fun a b : Nat => (a : Int) == (b : Int)) l m = false := eqLM_stop (i := i.1 + 1) (by rw [htk]; simp at h2; simp; omega)
    refine Y8 ?_;exact Tri.ret ⟨.inr rfl, ret1 rfl resV_tmp (bv_imp hf.symm)⟩
   ·skip
    have hnext : eqLM (fun a b : Nat => (a : Int) == (b : Int)) (l.take (i.1 + 1)) (m.take (i.1 + 1)) = true := by rw [htk]; simp at h2; simp; omega
    refine Tri.skip ?_;refine Y30 ?_
    refine ⟨⟨i.1 + 1, hnext⟩, by show l.length - (i.1 + 1) < l.length - i.1; omega, le_of ?_ ?_⟩
    ·exact zE
    ·exact zH
  ·skip
   have hf : eqLM (fun a b : Nat => (a : Int) == (b : Int)) l m = true := by
    have := i.2
    rwa [List.take_of_length_le (by rw [path_len] at h1; simp at h1; omega), List.take_of_length_le (by rw [path_len] at h1; simp at h1; omega)] at this
   refine Tri.exit ?_;refine Y8 ?_;exact Tri.ret ⟨.inr rfl, ret1 rfl resV_tmp (bv_imp hf.symm)⟩
def askM (r : List Int) (n : Int) (t : Tm) : Tm := .mk 11 n r [t] []
def resM (b : Tm) : Tm := .mk 12 0 (sumR 11) [prM 1 (askM (sumR 11) 0 (nuM 5)) (nuM 1), vaM 0, b] []
theorem Resumed_c (b : Tm) : FCall Tryz.prog gA 69 [.pu (tmc 0 b)] (.pu (tmc 0 (resM b))) := by
 refine FCall.of_tri tbl 13 Tryz.func69 rfl rfl rfl fun w0 M ρ0 D0 => ?_
 refine yR ?_;refine s_box SS 1 ?_;refine s_alloc SS 2 ?_;refine e_seqN [1, 2] ?_;refine yR ?_;refine yG ?_;refine yG ?_;refine s_val (v_callD (fun _ => Nu_c 5)) ?_;refine s_val (v_callD (fun _ => Ask_c (sumR 11) 0 (nuM 5))) ?_;refine s_val (v_callD (fun _ => Nu_c 1)) ?_;refine s_val (v_callD (fun _ => Pr_c 1 (askM (sumR 11) 0 (nuM 5)) (nuM 1))) ?_;refine s_val (v_callD (fun _ => Va_c 0)) ?_;refine yL ?_;refine yZ ?_;refine s_val (v_callD (fun _ => Ha_c (sumR 11) [prM 1 (askM (sumR 11) 0 (nuM 5)) (nuM 1), vaM 0, b])) ?_;refine yS ?_;refine Y38 ?_;exact Tri.ret ⟨.inr rfl, ret1 rfl resV_cell (ToPu.imp (by repeat constructor))⟩
def awT : List KT := [(sumR 21, apM (deM (sumR 21)) (nuM 0))]
def aw1 : Tm := apM (laM (prM 1 (vaM 0) (vaM 0))) (prM 1 (nuM 1) (nuM 2))
def onceM : Tm := apM (vaM 0) (vaM 1)
def twiceM : Tm := prM 1 (apM (vaM 0) (nuM 1)) (apM (vaM 0) (nuM 2))
theorem aw_sz : ∀ x ∈ awT, tsize x.2 < 2^40 := by intro x hx; simp only [awT, List.mem_singleton] at hx; subst hx; decide
abbrev awA : Pu := .sl 0 130 []
abbrev awB : Pu := .sl 0 136 []
theorem awNext (t : Tm) {x : Int × List Nat × Int} (h : stepNextM awT t = x) (hz : tsize t < 2^40) : FCall Tryz.prog gA 18 [.pu (wdP awA awB awT), .pu (tmc 0 t)] (nextV x) := h ▸ stepNext_c awA awB awT t aw_sz hz
theorem awRun (t : Tm) (n : Int) {x : EndM × Int} (h : runM awT t n = x) (hz : tsize t < 2^40) : FCall Tryz.prog gA 35 [.pu (wdP awA awB awT), .pu (tmc 0 t), iv .i64 n] (ranV x) := h ▸ run_c awA awB awT t n aw_sz hz
theorem aw_n1 : stepNextM awT aw1 = (4, [1], 0) := by kernel_rfl
theorem aw_r1 : runM awT aw1 10 = (⟨0, 3, nuM 6, Z32, 0⟩, 0) := by kernel_rfl
theorem aw_r2 : runM awT (resM onceM) 10 = (⟨0, 4, nuM 6, Z32, 0⟩, 0) := by kernel_rfl
theorem aw_r3 : runM awT (resM (vaM 1)) 10 = (⟨0, 1, nuM 5, Z32, 0⟩, 0) := by kernel_rfl
theorem aw_r4 : runM awT (resM twiceM) 20 = (⟨0, 8, nuM 5, Z32, 0⟩, 0) := by kernel_rfl
theorem aw_r5 : runM awT (deM (sumR 21)) 10 = (⟨10, 10, noneM, Z32, 0⟩, 0) := by kernel_rfl
theorem aw_n2 : stepNextM awT (apM (nuM 1) (nuM 2)) = (8, [], 0) := by kernel_rfl
theorem aw_n3 : stepNextM awT (askM (sumR 11) 0 (nuM 1)) = (9, [], 0) := by kernel_rfl
end Go.Proofs.YtkcgkignhpepkaaGreatDoor

/- awake: the chapter's examples come out as told. -/
namespace Go.Proofs.YtkcgkignhpepkaaGreatDoor
open Go Hs
set_option maxHeartbeats 4000000 in
theorem awake_c : FCall Tryz.prog gA 13 [] (bv true) := by
 refine FCall.of_tri tbl 203 Tryz.func13 rfl rfl rfl fun w0 M ρ0 D0 => ?_
 refine Y8 ?_;refine Tri.cond rfl (fun h0 => ?_) (fun h0 => ?_)
 ·cases h0
 ·skip
  refine Tri.skip ?_;refine yR ?_;refine yG ?_;refine yG ?_;refine s_val (v_callD (fun _ => De_c (sumR 21))) ?_;refine s_val (v_callD (fun _ => Nu_c 0)) ?_;refine s_val (v_callD (fun _ => Ap_c (deM (sumR 21)) (nuM 0))) ?_;refine yP ?_;refine yZ ?_;refine yP ?_;refine s_alloc SS 1 ?_;refine yS ?_;refine e_drawN [1] ?_;refine yR ?_;refine s_val (v_callD (fun _ => Va_c 0)) ?_;refine s_val (v_callD (fun _ => Va_c 0)) ?_;refine s_val (v_callD (fun _ => Pr_c 1 (vaM 0) (vaM 0))) ?_;refine s_val (v_callD (fun _ => La_c (prM 1 (vaM 0) (vaM 0)))) ?_;refine s_val (v_callD (fun _ => Nu_c 1)) ?_;refine s_val (v_callD (fun _ => Nu_c 2)) ?_;refine s_val (v_callD (fun _ => Pr_c 1 (nuM 1) (nuM 2))) ?_;refine s_val (v_callD (fun _ => Ap_c (laM (prM 1 (vaM 0) (vaM 0))) (prM 1 (nuM 1) (nuM 2)))) ?_;refine s_alloc SS 2 ?_;refine yS ?_;refine e_seqN [2] ?_;refine Y33 ?_
  refine s_val (v_callD (fun _ => awNext aw1 aw_n1 (by decide))) ?_;refine Y35 ?_;refine yX ?_;refine yA ?_;refine yA ?_;refine Y10 ?_;refine Y33 ?_;refine s_val (v_callD (fun _ => awRun aw1 10 aw_r1 (by decide))) ?_;refine Y35 ?_;refine s_alloc SS 6 ?_;refine yS ?_;refine yA ?_;refine e_seqN [6] ?_;refine Y6 ?_;refine s_val (v_callD (fun _ => Once_c)) ?_;refine s_val (v_callD (fun _ => Resumed_c onceM)) ?_;refine s_val (v_callD (fun _ => awRun (resM onceM) 10 aw_r2 (by decide))) ?_;refine Y35 ?_;refine s_alloc SS 8 ?_;refine yS ?_;refine yA ?_;refine e_drawN [8] ?_;refine Y6 ?_;refine s_val (v_callD (fun _ => Va_c 1)) ?_;refine s_val (v_callD (fun _ => Resumed_c (vaM 1))) ?_;refine s_val (v_callD (fun _ => awRun (resM (vaM 1)) 10 aw_r3 (by decide))) ?_;refine Y32 ?_
  refine yX ?_;refine s_alloc SS 10 ?_;refine yS ?_;refine yA ?_;refine e_drawN [10] ?_;refine Y6 ?_;refine s_val (v_callD (fun _ => Twice_c)) ?_;refine s_val (v_callD (fun _ => Resumed_c twiceM)) ?_;refine s_val (v_callD (fun _ => awRun (resM twiceM) 20 aw_r4 (by decide))) ?_;refine Y35 ?_;refine s_alloc SS 12 ?_;refine yS ?_;refine yA ?_;refine e_drawN [12] ?_;refine Y6 ?_;refine yG ?_;refine s_val (v_callD (fun _ => De_c (sumR 21))) ?_;refine s_val (v_callD (fun _ => awRun (deM (sumR 21)) 10 aw_r5 (by decide))) ?_;refine Y35 ?_;refine s_alloc SS 14 ?_;refine yS ?_;refine yA ?_;refine e_drawN [14] ?_;refine Y6 ?_;refine s_val (v_callD (fun _ => Nu_c 1)) ?_;refine s_val (v_callD (fun _ => Nu_c 2)) ?_;refine s_val (v_callD (fun _ => Ap_c (nuM 1) (nuM 2))) ?_
  refine s_val (v_callD (fun _ => awNext (apM (nuM 1) (nuM 2)) aw_n2 (by decide))) ?_;refine Y35 ?_;refine yX ?_;refine yA ?_;refine yA ?_;refine yA ?_;refine e_draw ?_;refine Y6 ?_;refine yG ?_;refine s_val (v_callD (fun _ => Nu_c 1)) ?_;refine s_val (v_callD (fun _ => Ask_c (sumR 11) 0 (nuM 1))) ?_;refine s_val (v_callD (fun _ => awNext (askM (sumR 11) 0 (nuM 1)) aw_n3 (by decide))) ?_;refine Y35 ?_;refine yX ?_;refine yA ?_;refine yA ?_;refine yA ?_;refine e_draw ?_;refine Y44 ?_;refine Y17 ?_;refine Y22 ?_;refine Y17 ?_;refine Y22 ?_;refine Y17 ?_;refine Y22 ?_;refine Y17 ?_;refine Y22 ?_;refine Y17 ?_;refine Y22 ?_;refine Y17 ?_;refine Y22 ?_;refine Y17 ?_;refine yM ?_
  refine xM ?_;refine Y17 ?_;refine Y22 ?_;refine s_gg zG (v_sl SS) ?_;refine s_gg zG (v_callD (fun _ => eqPath_c [1] [1] (by decide) (by decide))) ?_;refine yN ?_;refine Y11 ?_;refine Y17 ?_;refine Y11 ?_;refine Y17 ?_;refine yM ?_;refine xF ?_;refine Y5 ?_;refine Y17 ?_;refine Y11 ?_;refine Y17 ?_;refine yM ?_;refine xF ?_;refine Y5 ?_;refine Y17 ?_;refine Y11 ?_;refine Y17 ?_;refine yM ?_;refine xF ?_;refine Y5 ?_;refine Y17 ?_;refine Y11 ?_;refine Y17 ?_;refine yM ?_;refine xF ?_;refine Y5 ?_;refine Y17 ?_;refine Y11 ?_;refine Y17 ?_;refine Y11 ?_;refine Y17 ?_;refine yM ?_
  refine xM ?_;refine Y17 ?_;refine Y22 ?_;refine Y51 ?_;exact Tri.ret ⟨.inr rfl, ret1 rfl resV_tmp (bv_imp (by kernel_rfl))⟩
end Go.Proofs.YtkcgkignhpepkaaGreatDoor

/- Counters that stop, told by size and depth. -/
namespace Go.Proofs.YtkcgkignhpepkaaGreatDoor
open Go Hs
variable {G : List (Nat × TypeId × Pu)}
mutual
def pdeep : Pat → Nat
 | .mk _ _ _ ks => pdeepL ks + 1
def pdeepL : List Pat → Nat
 | [] => 0
 | p :: ps => max (pdeep p) (pdeepL ps)
end
mutual
def tdeep : Tm → Nat
 | .mk _ _ _ ks cs => max (tdeepL ks) (cdeepL cs) + 1
def tdeepL : List Tm → Nat
 | [] => 0
 | t :: ts => max (tdeep t) (tdeepL ts)
def cdeep : Cs → Nat
 | .mk p t => max (pdeep p) (tdeep t)
def cdeepL : List Cs → Nat
 | [] => 0
 | c :: cs => max (cdeep c) (cdeepL cs)
end
mutual
theorem pdeep_le : ∀ p : Pat, pdeep p ≤ psize p
 | .mk _ _ _ ks => by have := pdeepL_le ks; simp only [pdeep, psize]; omega
theorem pdeepL_le : ∀ ps : List Pat, pdeepL ps ≤ psizeL ps
 | [] => by simp [pdeepL]
 | p :: ps => by have := pdeep_le p; have := pdeepL_le ps; simp only [pdeepL, psizeL]; omega
end
mutual
theorem tdeep_le : ∀ p : Tm, tdeep p ≤ tsize p
 | .mk _ _ _ ks cs => by have := tdeepL_le ks; have := cdeepL_le cs; simp only [tdeep, tsize]; omega
theorem tdeepL_le : ∀ ps : List Tm, tdeepL ps ≤ tsizeL ps
 | [] => by simp [tdeepL]
 | p :: ps => by have := tdeep_le p; have := tdeepL_le ps; simp only [tdeepL, tsizeL]; omega
theorem cdeep_le : ∀ p : Cs, cdeep p ≤ csize p
 | .mk q t => by have := pdeep_le q; have := tdeep_le t; simp only [cdeep, csize]; omega
theorem cdeepL_le : ∀ ps : List Cs, cdeepL ps ≤ csizeL ps
 | [] => by simp [cdeepL]
 | p :: ps => by have := cdeep_le p; have := cdeepL_le ps; simp only [cdeepL, csizeL]; omega
end
def LS (mn md : Int) (n dp : Nat) (d c : Int) (r : Bool × Int) : Prop := (c + n ≤ mn ∧ d + dp ≤ md + 1 → r = (false, c + n)) ∧ (¬ (c + n ≤ mn ∧ d + dp ≤ md + 1) → r.1 = true)
mutual
theorem longP_ls (mn md : Int) : ∀ (p : Pat) (d c : Int), LS mn md (psize p) (pdeep p) d c (longP mn md d c p)
 | .mk _ _ _ ks, d, c => by
  simp only [longP, psize, pdeep]
  split
  ·exact ⟨fun h => by omega, fun _ => rfl⟩
  ·have := longPs_ls mn md ks (d + 1) (c + 1) (by omega) (by omega)
   unfold LS at *
   rw [show c + ((1 + psizeL ks : Nat) : Int) = c + 1 + psizeL ks by omega, show d + ((pdeepL ks + 1 : Nat) : Int) = d + 1 + pdeepL ks by omega];exact this
theorem longPs_ls (mn md : Int) : ∀ (ks : List Pat) (d c : Int), c ≤ mn → d ≤ md + 1 → LS mn md (psizeL ks) (pdeepL ks) d c (longPs mn md d c ks)
 | [], d, c, hc, hd => ⟨fun _ => by simp [longPs, psizeL], fun h => by simp only [psizeL, pdeepL] at h; omega⟩
 | p :: ps, d, c, hc, hd => by
  obtain ⟨h1, h2⟩ := longP_ls mn md p d c
  simp only [longPs, psizeL, pdeepL]
  by_cases h : c + psize p ≤ mn ∧ d + pdeep p ≤ md + 1
  ·rw [h1 h]
   obtain ⟨h3, h4⟩ := longPs_ls mn md ps d (c + psize p) h.1 hd
   refine ⟨fun h5 => ?_, fun h5 => ?_⟩
   ·show longPs mn md d (c + psize p) ps = _
    rw [h3 (by omega)]; congr 1; omega
   ·exact h4 (by omega)
  ·have h3 := h2 h
   generalize longP mn md d c p = r at h3
   obtain ⟨b, c'⟩ := r
   simp only at h3
   subst h3;exact ⟨fun h5 => by omega, fun _ => rfl⟩
end
mutual
theorem longT_ls (mn md : Int) : ∀ (p : Tm) (d c : Int), LS mn md (tsize p) (tdeep p) d c (longT mn md d c p)
 | .mk _ _ _ ks cs, d, c => by
  simp only [longT, tsize, tdeep]
  split
  ·exact ⟨fun h => by omega, fun _ => rfl⟩
  ·obtain ⟨h1, h2⟩ := longTs_ls mn md ks (d + 1) (c + 1) (by omega) (by omega)
   by_cases h : c + 1 + tsizeL ks ≤ mn ∧ d + 1 + tdeepL ks ≤ md + 1
   ·rw [h1 h]
    obtain ⟨h3, h4⟩ := longCs_ls mn md cs (d + 1) (c + 1 + tsizeL ks) h.1 (by omega)
    refine ⟨fun h5 => ?_, fun h5 => ?_⟩
    ·show longCs mn md (d + 1) (c + 1 + tsizeL ks) cs = _
     rw [h3 (by omega)]; congr 1; omega
    ·exact h4 (by omega)
   ·have h3 := h2 h
    generalize longTs mn md (d + 1) (c + 1) ks = r at h3
    obtain ⟨b, c'⟩ := r
    simp only at h3
    subst h3;exact ⟨fun h5 => by omega, fun _ => rfl⟩
theorem longTs_ls (mn md : Int) : ∀ (ks : List Tm) (d c : Int), c ≤ mn → d ≤ md + 1 → LS mn md (tsizeL ks) (tdeepL ks) d c (longTs mn md d c ks)
 | [], d, c, hc, hd => ⟨fun _ => by simp [longTs, tsizeL], fun h => by simp only [tsizeL, tdeepL] at h; omega⟩
 | p :: ps, d, c, hc, hd => by
  obtain ⟨h1, h2⟩ := longT_ls mn md p d c
  simp only [longTs, tsizeL, tdeepL]
  by_cases h : c + tsize p ≤ mn ∧ d + tdeep p ≤ md + 1
  ·rw [h1 h]
   obtain ⟨h3, h4⟩ := longTs_ls mn md ps d (c + tsize p) h.1 hd
   refine ⟨fun h5 => ?_, fun h5 => ?_⟩
   ·show longTs mn md d (c + tsize p) ps = _
    rw [h3 (by omega)]; congr 1; omega
   ·exact h4 (by omega)
  ·have h3 := h2 h
   generalize longT mn md d c p = r at h3
   obtain ⟨b, c'⟩ := r
   simp only at h3
   subst h3;exact ⟨fun h5 => by omega, fun _ => rfl⟩
theorem longC_ls (mn md : Int) : ∀ (p : Cs) (d c : Int), LS mn md (csize p) (cdeep p) d c (longC mn md d c p)
 | .mk q t, d, c => by
  obtain ⟨h1, h2⟩ := longP_ls mn md q d c
  simp only [longC, csize, cdeep]
  have hp := tsize_pos t
  by_cases h : c + psize q ≤ mn ∧ d + pdeep q ≤ md + 1
  ·rw [h1 h]
   obtain ⟨h3, h4⟩ := longT_ls mn md t d (c + psize q)
   refine ⟨fun h5 => ?_, fun h5 => ?_⟩
   ·show longT mn md d (c + psize q) t = _
    rw [h3 (by omega)]; congr 1; omega
   ·exact h4 (by omega)
  ·have h3 := h2 h
   generalize longP mn md d c q = r at h3
   obtain ⟨b, c'⟩ := r
   simp only at h3
   subst h3;exact ⟨fun h5 => by omega, fun _ => rfl⟩
theorem longCs_ls (mn md : Int) : ∀ (ks : List Cs) (d c : Int), c ≤ mn → d ≤ md + 1 → LS mn md (csizeL ks) (cdeepL ks) d c (longCs mn md d c ks)
 | [], d, c, hc, hd => ⟨fun _ => by simp [longCs, csizeL], fun h => by simp only [csizeL, cdeepL] at h; omega⟩
 | p :: ps, d, c, hc, hd => by
  obtain ⟨h1, h2⟩ := longC_ls mn md p d c
  simp only [longCs, csizeL, cdeepL]
  by_cases h : c + csize p ≤ mn ∧ d + cdeep p ≤ md + 1
  ·rw [h1 h]
   obtain ⟨h3, h4⟩ := longCs_ls mn md ps d (c + csize p) h.1 hd
   refine ⟨fun h5 => ?_, fun h5 => ?_⟩
   ·show longCs mn md d (c + csize p) ps = _
    rw [h3 (by omega)]; congr 1; omega
   ·exact h4 (by omega)
  ·have h3 := h2 h
   generalize longC mn md d c p = r at h3
   obtain ⟨b, c'⟩ := r
   simp only at h3
   subst h3;exact ⟨fun h5 => by omega, fun _ => rfl⟩
end
end Go.Proofs.YtkcgkignhpepkaaGreatDoor

/- The reference: what fits. -/
namespace Go.Proofs.YtkcgkignhpepkaaGreatDoor
open Go Hs
variable {G : List (Nat × TypeId × Pu)}
theorem rfits_c : ∀ (N : Nat) (p : Pat), psize p ≤ N → ∀ (t : Tm), tsize t < 2^30 → FCall Tryz.prog G 137 [.pu (patc 0 p), .pu (tmc 0 t)] (fitV 0 (fitsM p t)) := by
 intro N
 induction N with
 | zero => intro p h; cases p; simp [psize] at h
 | succ N ih =>
 intro p hp t hN
 obtain ⟨k, n, r, ks⟩ := p
 obtain ⟨k', n', r', ks', cs'⟩ := t
 simp only [psize] at hp
 have hsz : 1 + tsizeL ks' + csizeL cs' < 2^30 := by simpa only [tsize] using hN
 have hlen := length_psizeL ks
 have hlen' := length_tsizeL ks'
 refine FCall.of_tri tbl 90 Tryz.func137 rfl rfl rfl fun w0 M ρ0 D0 => ?_
 refine Tri.fact (i := 0) rfl (fun D w x h => pat_wf h) (fun hr => ?_);refine Tri.fact (i := 1) rfl (fun D w x h => tm_wf h) (fun hr' => ?_)
 simp only [wfP, wfT] at hr hr'
 refine yR ?_;refine s_box SS 2 ?_;refine s_box SS 3 ?_;refine yB ?_;refine yB ?_;refine e_seqN [2, 3] ?_;refine tQ ?_;refine Tri.block ?_;refine Y21 ?_;refine Y2 ?_;refine Tri.cond rfl (fun h0 => ?_) (fun h0 => ?_)
 ·skip
  have hf : fitsM (.mk k n r ks) (.mk k' n' r' ks' cs') = ([.mk k' n' r' ks' cs'], true) := by simp at h0; simp [fitsM, h0]
  refine Y6 ?_;refine s_val (v_callD (fun _ => refOwn_c _ (.mk k' n' r' ks' cs') (Nat.le_refl _) hN)) ?_;refine yZ ?_;refine yA ?_;refine Y26 ?_;rw [hf];exact Tri.ret ⟨.inr rfl, ret2 rfl resV_tmp (ToPu.imp (by repeat constructor)) resV_tmp (VImp.refl _)⟩
 ·skip
  refine Y21 ?_;refine Y2 ?_;refine Tri.cond rfl (fun h1 => ?_) (fun h1 => ?_)
  ·skip
   have hf : fitsM (.mk k n r ks) (.mk k' n' r' ks' cs') = ([], k' == 2 && n' == n) := by simp at h1; simp [fitsM, h1, Tm.kind, Tm.num]
   refine Y21 ?_;refine Y25 ?_;refine Y17 ?_;refine yB ?_;refine yA ?_;refine Y38 ?_;rw [hf];exact Tri.ret ⟨.inr rfl, ret2 rfl resV_tmp (ToPu.imp (by repeat constructor)) resV_tmp (VImp.refl _)⟩
  ·skip
   refine Y41 ?_;refine Y18 ?_;refine Y25 ?_;refine s_gg zG (v_bin SS (h := bin_neS (hr'.1.trans hr.1.symm))) ?_;refine yO ?_;refine Y25 ?_;refine Y43 ?_;refine xC ?_;refine Y5 ?_;refine xC ?_;refine Y18 ?_;refine Y2 ?_;refine Tri.cond rfl (fun h2 => ?_) (fun h2 => ?_)
   ·skip
    have hf : fitsM (.mk k n r ks) (.mk k' n' r' ks' cs') = ([], false) := by
     rw [tms_length, pats_length] at h2
     simp only [beq_eq_false_iff_ne, ne_eq] at h0 h1
     simp only [fitsM, if_neg h0, if_neg h1]
     by_cases h3 : k = 3
     ·rw [if_pos h3]; subst h3; exact if_pos (by simpa [Tm.kind, Tm.num, Tm.ref, Tm.kids] using h2)
     ·rw [if_neg h3]
    refine Y3 ?_;refine Y26 ?_;rw [hf];exact Tri.ret ⟨.inr rfl, ret2 rfl resV_tmp (ToPu.imp (by repeat constructor)) resV_tmp (VImp.refl _)⟩
   ·skip
    rw [tms_length, pats_length] at h2
    have h3 : k = 3 := by simp only [Bool.or_eq_false_iff, bne_eq_false_iff_eq] at h2; exact h2.1.1.1.1
    have hll : ks'.length = ks.length := by simp only [Bool.or_eq_false_iff, bne_eq_false_iff_eq] at h2; omega
    have hf : fitsM (.mk k n r ks) (.mk k' n' r' ks' cs') = fitsL ks ks' := by
     simp only [beq_eq_false_iff_ne, ne_eq] at h0 h1
     simp only [fitsM, if_neg h0, if_neg h1, if_pos h3]
     subst h3;exact if_neg (by simp only [Bool.not_eq_true]; simpa [Tm.kind, Tm.num, Tm.ref, Tm.kids] using h2)
    refine Tri.skip ?_;refine Y19 ?_;refine Y8 ?_;refine Tri.block (Tri.loopW (σ := {x : Nat × List Tm // fitsL (ks.take x.1) (ks'.take x.1) = (x.2, true)}) (fun i => ⟨[(2, .ptr 2 [] 104), (3, .ptr 3 [] 32), (6, .ow 0 32 (tmsc 0 i.1.2)), (7, iv .i64 i.1.1)], [(2, .var 104 (.pu (patc 0 (.mk k n r ks)))), (3, .var 32 (.pu (tmc 0 (.mk k' n' r' ks' cs'))))]⟩) (fun i => ks.length - i.1.1) ⟨(0, []), by simp [fitsL]⟩ ?_ ?_ (fun i => ?_))
    ·repeat (first | exact .nil | refine .cons rfl (by first | exact .refl | (focus ((repeat constructor); done)) | (exact .nilcOw)) ?_)
    ·repeat (first | exact .nil | refine .cons rfl (by first | exact .refl | (focus ((repeat constructor); done)) | (exact .nilcOw)) ?_)
    refine Y60 ?_;refine Tri.cond rfl (fun h3 => ?_) (fun h3 => ?_)
    ·skip
     have hi : i.1.1 < ks.length := by rw [pats_length] at h3; simpa using h3
     have hi' : i.1.1 < ks'.length := by omega
     have htk := fitsL_take hi hi'
     rw [i.2] at htk
     have hsp := psizeL_get hi
     have hst := tsize_mem (List.getElem_mem hi')
     refine Tri.skip ?_;refine tQ ?_;refine Tri.block ?_;refine Y45 ?_;refine s_val (v_index SS (h0 := by omega) (hp := pats_get hi)) ?_;refine yL ?_;refine Y46 ?_;refine s_val (v_index SS (h0 := by omega) (hp := tms_get hi')) ?_;refine yL ?_;refine s_val (v_callD (fun _ => ih ks[i.1.1] (by omega) ks'[i.1.1] (by omega))) ?_;refine Y65 ?_;refine yA ?_;refine e_draw ?_;refine Y1 ?_;refine Y74 ?_;refine Tri.cond rfl (fun h4 => ?_) (fun h4 => ?_)
     ·skip
      have hf2 : fitsL ks ks' = ([], false) := fitsL_stop (i := i.1.1 + 1) (by
       rw [htk]; simp at h4; simp [fitAdd, h4])
      rw [hf2] at hf
      refine Y3 ?_;refine Y26 ?_;rw [hf];exact Tri.ret ⟨.inr rfl, ret2 rfl resV_tmp (ToPu.imp (by repeat constructor)) resV_tmp (VImp.refl _)⟩
     ·skip
      have hnext : fitsL (ks.take (i.1.1 + 1)) (ks'.take (i.1.1 + 1)) = (i.1.2 ++ (fitsM ks[i.1.1] ks'[i.1.1]).1, true) := by
       rw [htk]; simp at h4; simp [fitAdd, h4]
      refine Tri.skip ?_;refine Y20 ?_;refine s_app1 6 ?_ ?_
      ·have h1 := fitsL_b (ks.take i.1.1) (ks'.take i.1.1)
       have h2 := fits_b ks[i.1.1] ks'[i.1.1]
       have h3 := tsizeL_take (ks := ks') (i := i.1.1)
       rw [i.2] at h1
       simp only [tms_length] at h1 ⊢
       omega
      refine Y10 ?_;refine Y28 ?_
      refine ⟨⟨(i.1.1 + 1, i.1.2 ++ (fitsM ks[i.1.1] ks'[i.1.1]).1), hnext⟩, by show ks.length - (i.1.1 + 1) < ks.length - i.1.1; omega, le_of ?_ ?_⟩
      ·repeat (first | exact SubE.nil | refine SubE.cons rfl (by first | rfl | (rw [wrap64 (by omega) (by omega)]; rfl) | (simp only [tms_eq, List.map_append])) ?_)
      ·repeat (first | exact SubH.nil | refine SubH.cons rfl (by first | rfl | (rw [wrap64 (by omega) (by omega)]; rfl) | (simp only [tms_eq, List.map_append])) ?_)
    ·skip
     have hf2 : fitsL ks ks' = (i.1.2, true) := by
      have := i.2
      rwa [List.take_of_length_le (by rw [pats_length] at h3; simp at h3; omega), List.take_of_length_le (by rw [pats_length] at h3; simp at h3; omega)] at this
     rw [hf2] at hf
     refine Tri.exit ?_;refine Y1 ?_;refine yA ?_;refine Y26 ?_;rw [hf];exact Tri.ret ⟨.inr rfl, ret2 rfl resV_tmp (ToPu.imp (by repeat constructor)) resV_tmp (VImp.refl _)⟩
end Go.Proofs.YtkcgkignhpepkaaGreatDoor

/- Numbers that are ints. -/
namespace Go.Proofs.YtkcgkignhpepkaaGreatDoor
open Go Hs
variable {G : List (Nat × TypeId × Pu)}
mutual
def rgT : Tm → Prop
 | .mk _ n _ ks cs => (-2^63 ≤ n ∧ n < 2^63) ∧ rgK ks ∧ rgC cs
def rgK : List Tm → Prop
 | [] => True
 | t :: ts => rgT t ∧ rgK ts
def rgC : List Cs → Prop
 | [] => True
 | c :: cs => rgS c ∧ rgC cs
def rgS : Cs → Prop
 | .mk _ t => rgT t
end
end Go.Proofs.YtkcgkignhpepkaaGreatDoor

/- The reference: numbers of terms and patterns. -/
namespace Go.Proofs.YtkcgkignhpepkaaGreatDoor
open Go Hs
variable {G : List (Nat × TypeId × Pu)}
theorem roff_c (n lo hi : Int) : FCall Tryz.prog G 212 [iv .i64 n, iv .i64 lo, iv .i64 hi] (bv (offM n lo hi)) := by
 refine FCall.of_tri tbl 15 Tryz.func212 rfl rfl rfl fun w0 M ρ0 D0 => ?_
 refine Y19 ?_;refine Y52 ?_;refine Y22 ?_;refine xM ?_;refine Y18 ?_;refine Y2 ?_;exact Tri.ret ⟨.inr rfl, ret1 rfl resV_tmp (VImp.refl _)⟩
theorem rhasNum_c (k : Int) : FCall Tryz.prog G 213 [iv .i64 k] (bv (hasNumM k)) := by
 refine FCall.of_tri tbl 25 Tryz.func213 rfl rfl rfl fun w0 M ρ0 D0 => ?_
 refine Y19 ?_;refine Y44 ?_;refine Y18 ?_;refine Y22 ?_;refine Y18 ?_;refine Y22 ?_;refine Y18 ?_;refine Y22 ?_;refine Y18 ?_;refine Y22 ?_;refine Y18 ?_;refine Y2 ?_;exact Tri.ret ⟨.inr rfl, ret1 rfl resV_tmp (bv_imp (by unfold hasNumM; ac_rfl))⟩
theorem rhasRef_c (k : Int) : FCall Tryz.prog G 214 [iv .i64 k] (bv (hasRefM k)) := by
 refine FCall.of_tri tbl 17 Tryz.func214 rfl rfl rfl fun w0 M ρ0 D0 => ?_
 refine Y19 ?_;refine Y44 ?_;refine Y18 ?_;refine Y22 ?_;refine Y18 ?_;refine Y22 ?_;refine Y18 ?_;refine Y2 ?_;exact Tri.ret ⟨.inr rfl, ret1 rfl resV_tmp (bv_imp (by unfold hasRefM; ac_rfl))⟩
def rkidsM (k : Int) : Int × Int := if k == 3 || k == 9 || k == 11 then (1, 1) else if k == 4 || k == 5 || k == 10 then (2, 2) else if k == 8 then (0, 4) else if k == 12 then (2, 10) else (0, 0)
theorem rkids_c (k : Int) : FCall Tryz.prog G 215 [iv .i64 k] (.tup [iv .i64 (rkidsM k).1, iv .i64 (rkidsM k).2]) := by
 refine FCall.of_tri tbl 17 Tryz.func215 rfl rfl rfl fun w0 M ρ0 D0 => ?_
 refine Y3 ?_;refine yB ?_;refine e_seq ?_;refine Y1 ?_;refine Y0 ?_;refine Tri.block ?_;refine Y15 ?_;refine Tri.cutT ⟨[(4, iv .i64 k), (5, bv (k == 3 || k == 9 || k == 11))], []⟩ ?_ ?_
 ·skip
  refine tQ ?_;refine Tri.cond rfl (fun h0 => ?_) (fun h0 => ?_)
  ·skip
   refine Tri.skip ?_;refine le_of ?_ ?_
   ·repeat (first | exact SubE.nil | refine SubE.cons rfl (by first | rfl | (rw [wrap64 (by omega) (by omega)]; rfl) | (simp only [*, Bool.true_or, Bool.or_true, Bool.false_or])) ?_)
   ·repeat (first | exact SubH.nil | refine SubH.cons rfl (by first | rfl | (rw [wrap64 (by omega) (by omega)]; rfl) | (simp only [*, Bool.true_or, Bool.or_true, Bool.false_or])) ?_)
  ·skip
   refine Y15 ?_;refine Tri.cond rfl (fun h1 => ?_) (fun h1 => ?_)
   ·skip
    refine Tri.skip ?_;refine le_of ?_ ?_
    ·repeat (first | exact SubE.nil | refine SubE.cons rfl (by first | rfl | (rw [wrap64 (by omega) (by omega)]; rfl) | (simp only [*, Bool.true_or, Bool.or_true, Bool.false_or])) ?_)
    ·repeat (first | exact SubH.nil | refine SubH.cons rfl (by first | rfl | (rw [wrap64 (by omega) (by omega)]; rfl) | (simp only [*, Bool.true_or, Bool.or_true, Bool.false_or])) ?_)
   ·skip
    refine Y9 ?_;refine Y10 ?_;refine le_of ?_ ?_
    ·repeat (first | exact SubE.nil | refine SubE.cons rfl (by first | rfl | (rw [wrap64 (by omega) (by omega)]; rfl) | (simp only [*, Bool.true_or, Bool.or_true, Bool.false_or])) ?_)
    ·repeat (first | exact SubH.nil | refine SubH.cons rfl (by first | rfl | (rw [wrap64 (by omega) (by omega)]; rfl) | (simp only [*, Bool.true_or, Bool.or_true, Bool.false_or])) ?_)
 ·skip
  refine tQ ?_;refine Tri.cond rfl (fun h2 => ?_) (fun h2 => ?_)
  ·skip
   refine Y3 ?_;refine Y26 ?_;exact Tri.ret ⟨.inr rfl, ret2 rfl resV_tmp (iv_imp (by simp_all [rkidsM])) resV_tmp (iv_imp (by simp_all [rkidsM]))⟩
  ·skip
   refine Y15 ?_;refine Tri.cutT ⟨[(4, iv .i64 k), (9, bv (k == 4 || k == 5 || k == 10))], []⟩ ?_ ?_
   ·skip
    refine tQ ?_;refine Tri.cond rfl (fun h3 => ?_) (fun h3 => ?_)
    ·skip
     refine Tri.skip ?_;refine le_of ?_ ?_
     ·repeat (first | exact SubE.nil | refine SubE.cons rfl (by first | rfl | (rw [wrap64 (by omega) (by omega)]; rfl) | (simp only [*, Bool.true_or, Bool.or_true, Bool.false_or])) ?_)
     ·repeat (first | exact SubH.nil | refine SubH.cons rfl (by first | rfl | (rw [wrap64 (by omega) (by omega)]; rfl) | (simp only [*, Bool.true_or, Bool.or_true, Bool.false_or])) ?_)
    ·skip
     refine Y15 ?_;refine Tri.cond rfl (fun h4 => ?_) (fun h4 => ?_)
     ·skip
      refine Tri.skip ?_;refine le_of ?_ ?_
      ·repeat (first | exact SubE.nil | refine SubE.cons rfl (by first | rfl | (rw [wrap64 (by omega) (by omega)]; rfl) | (simp only [*, Bool.true_or, Bool.or_true, Bool.false_or])) ?_)
      ·repeat (first | exact SubH.nil | refine SubH.cons rfl (by first | rfl | (rw [wrap64 (by omega) (by omega)]; rfl) | (simp only [*, Bool.true_or, Bool.or_true, Bool.false_or])) ?_)
     ·skip
      refine Y9 ?_;refine Y10 ?_;refine le_of ?_ ?_
      ·repeat (first | exact SubE.nil | refine SubE.cons rfl (by first | rfl | (rw [wrap64 (by omega) (by omega)]; rfl) | (simp only [*, Bool.true_or, Bool.or_true, Bool.false_or])) ?_)
      ·repeat (first | exact SubH.nil | refine SubH.cons rfl (by first | rfl | (rw [wrap64 (by omega) (by omega)]; rfl) | (simp only [*, Bool.true_or, Bool.or_true, Bool.false_or])) ?_)
   ·skip
    refine tQ ?_;refine Tri.cond rfl (fun h5 => ?_) (fun h5 => ?_)
    ·skip
     refine Y3 ?_;refine Y26 ?_;exact Tri.ret ⟨.inr rfl, ret2 rfl resV_tmp (iv_imp (by simp_all [rkidsM])) resV_tmp (iv_imp (by simp_all [rkidsM]))⟩
    ·skip
     refine Y15 ?_;refine Tri.cond rfl (fun h6 => ?_) (fun h6 => ?_)
     ·skip
      refine Y3 ?_;refine Y26 ?_;exact Tri.ret ⟨.inr rfl, ret2 rfl resV_tmp (iv_imp (by simp_all [rkidsM])) resV_tmp (iv_imp (by simp_all [rkidsM]))⟩
     ·skip
      refine Y15 ?_;refine Tri.cond rfl (fun h7 => ?_) (fun h7 => ?_)
      ·skip
       refine Y3 ?_;refine Y26 ?_;exact Tri.ret ⟨.inr rfl, ret2 rfl resV_tmp (iv_imp (by simp_all [rkidsM])) resV_tmp (iv_imp (by simp_all [rkidsM]))⟩
      ·skip
       refine Tri.skip ?_;refine Y3 ?_;refine Y26 ?_;exact Tri.ret ⟨.inr rfl, ret2 rfl resV_tmp (iv_imp (by simp_all [rkidsM])) resV_tmp (iv_imp (by simp_all [rkidsM]))⟩
theorem rmore_c (kind kid : Int) : FCall Tryz.prog G 217 [iv .i64 kind, iv .i64 kid] (iv .i64 (moreM kind kid)) := by
 refine FCall.of_tri tbl 27 Tryz.func217 rfl rfl rfl fun w0 M ρ0 D0 => ?_
 refine Y8 ?_;refine Tri.block ?_;refine Y56 ?_;refine Tri.cond rfl (fun h0 => ?_) (fun h0 => ?_)
 ·skip
  refine Tri.skip ?_;refine tQ ?_;refine Tri.cond rfl (fun h2 => ?_) (fun h2 => ?_)
  ·skip
   refine Y8 ?_;exact Tri.ret ⟨.inr rfl, ret1 rfl resV_tmp (iv_imp (by simp_all [moreM]; try omega))⟩
  ·skip
   refine Y76 ?_;refine Tri.cond rfl (fun h3 => ?_) (fun h3 => ?_)
   ·skip
    refine Y8 ?_;exact Tri.ret ⟨.inr rfl, ret1 rfl resV_tmp (iv_imp (by simp_all [moreM]; try omega))⟩
   ·skip
    refine Tri.skip ?_;refine Y8 ?_;exact Tri.ret ⟨.inr rfl, ret1 rfl resV_tmp (iv_imp (by simp_all [moreM]; try omega))⟩
 ·skip
  refine Y76 ?_;refine Tri.cond rfl (fun h1 => ?_) (fun h1 => ?_)
  ·skip
   refine Tri.skip ?_;refine tQ ?_;refine Tri.cond rfl (fun h2 => ?_) (fun h2 => ?_)
   ·skip
    refine Y8 ?_;exact Tri.ret ⟨.inr rfl, ret1 rfl resV_tmp (iv_imp (by simp_all [moreM]; try omega))⟩
   ·skip
    refine Y76 ?_;refine Tri.cond rfl (fun h3 => ?_) (fun h3 => ?_)
    ·skip
     refine Y8 ?_;exact Tri.ret ⟨.inr rfl, ret1 rfl resV_tmp (iv_imp (by simp_all [moreM]; try omega))⟩
    ·skip
     refine Tri.skip ?_;refine Y8 ?_;exact Tri.ret ⟨.inr rfl, ret1 rfl resV_tmp (iv_imp (by simp_all [moreM]; try omega))⟩
  ·skip
   refine Y76 ?_;refine Tri.cond rfl (fun h2 => ?_) (fun h2 => ?_)
   ·skip
    refine Y8 ?_;exact Tri.ret ⟨.inr rfl, ret1 rfl resV_tmp (iv_imp (by simp_all [moreM]; try omega))⟩
   ·skip
    refine Y76 ?_;refine Tri.cond rfl (fun h3 => ?_) (fun h3 => ?_)
    ·skip
     refine Y8 ?_;exact Tri.ret ⟨.inr rfl, ret1 rfl resV_tmp (iv_imp (by simp_all [moreM]; try omega))⟩
    ·skip
     refine Tri.skip ?_;refine Y8 ?_;exact Tri.ret ⟨.inr rfl, ret1 rfl resV_tmp (iv_imp (by simp_all [moreM]; try omega))⟩
theorem rbound_c : ∀ (N : Nat) (p : Pat), psize p ≤ N → N < 2^40 → FCall Tryz.prog G 218 [.pu (patc 0 p)] (iv .i64 (bindsM p)) := by
 intro N
 induction N with
 | zero => intro p h; cases p; simp [psize] at h
 | succ N ih =>
 intro p hp hN
 obtain ⟨k, n, r, ks⟩ := p
 simp only [psize] at hp
 have hlen := length_psizeL ks
 refine FCall.of_tri tbl 24 Tryz.func218 rfl rfl rfl fun w0 M ρ0 D0 => ?_
 refine yR ?_;refine s_box SS 1 ?_;refine yB ?_;refine e_seqN [1] ?_;refine Y21 ?_;refine Y0 ?_;refine Tri.cond rfl (fun h0 => ?_) (fun h0 => ?_)
 ·skip
  refine Y8 ?_;exact Tri.ret ⟨.inr rfl, ret1 rfl resV_tmp (iv_imp (by simp_all [bindsM]))⟩
 ·skip
  refine Tri.skip ?_;refine Y19 ?_;refine Y8 ?_;refine Tri.block (Tri.loopW (σ := Nat) (fun i => ⟨[(1, .ptr 1 [] 104), (4, iv .i64 i), (3, iv .i64 (bindsL (ks.take i)))], [(1, .var 104 (.pu (patc 0 (.mk k n r ks))))]⟩) (fun i => ks.length - i) 0 ?_ ?_ (fun i => ?_))
  ·exact zW
  ·exact zW
  refine Y60 ?_;refine Tri.cond rfl (fun h1 => ?_) (fun h1 => ?_)
  ·skip
   have hi : i < ks.length := by simpa [pats_eq] using h1
   have h1' := bindsL_bound (ks.take i)
   have h2 := binds_bound ks[i]
   have h3 := psizeL_take (ks := ks) (i := i)
   have h4 := psizeL_get hi
   refine Tri.skip ?_;refine tQ ?_;refine Tri.block ?_;refine Y37 ?_;refine yM ?_;refine s_val (v_index SS (h0 := by omega) (hp := pats_get hi)) ?_;refine yL ?_;refine s_val (v_callD (fun _ => ih ks[i] (by omega) (by omega))) ?_;refine yI ?_;refine Y10 ?_;refine Y28 ?_
   refine ⟨i + 1, by omega, le_of ?_ ?_⟩
   ·repeat (first | exact SubE.nil | refine SubE.cons rfl (by first | rfl | (rw [wrap64 (by omega) (by omega)]; rfl) | (rw [bindsL_take hi, wrap64 (by omega) (by omega)])) ?_)
   ·repeat (first | exact SubH.nil | refine SubH.cons rfl (by first | rfl | (rw [wrap64 (by omega) (by omega)]; rfl) | (rw [bindsL_take hi, wrap64 (by omega) (by omega)])) ?_)
  ·skip
   have hi : ks.length ≤ i := by simpa [pats_eq] using h1
   rw [List.take_of_length_le hi];refine Tri.exit ?_;refine Y61 ?_;exact Tri.ret ⟨.inr rfl, ret1 rfl resV_tmp (iv_imp (by simp_all [bindsM]))⟩
theorem rvalue_c : ∀ (N : Nat) (t : Tm), tsize t ≤ N → N < 2^40 → FCall Tryz.prog G 22 [.pu (tmc 0 t)] (bv (valM t)) := by
 intro N
 induction N with
 | zero => intro t h; have := tsize_pos t; omega
 | succ N ih =>
 intro t hp hN
 obtain ⟨k, n, r, ks, cs⟩ := t
 simp only [tsize] at hp
 have hlen := length_tsizeL ks
 refine FCall.of_tri tbl 29 Tryz.func22 rfl rfl rfl fun w0 M ρ0 D0 => ?_
 refine yR ?_;refine s_box SS 1 ?_;refine yB ?_;refine e_seqN [1] ?_;refine Y41 ?_;refine Y59 ?_;refine Tri.cond rfl (fun h0 => ?_) (fun h0 => ?_)
 ·skip
  refine Y8 ?_;exact Tri.ret ⟨.inr rfl, ret1 rfl resV_tmp (bv_imp (by simp at h0; simp [valM, h0]))⟩
 ·skip
  refine Tri.skip ?_;refine Y21 ?_;refine Y0 ?_;refine Tri.cond rfl (fun h1 => ?_) (fun h1 => ?_)
  ·skip
   refine Y8 ?_;exact Tri.ret ⟨.inr rfl, ret1 rfl resV_tmp (bv_imp (by simp at h0 h1; simp [valM, h0, h1]))⟩
  ·skip
   refine Tri.skip ?_;refine Y8 ?_;refine Tri.block (Tri.loopW (σ := {i : Nat // ∀ j (hj : j < ks.length), j < i → valM ks[j] = true}) (fun i => ⟨[(1, .ptr 1 [] 32), (3, iv .i64 i.1)], [(1, .var 32 (.pu (tmc 0 (.mk k n r ks cs))))]⟩) (fun i => ks.length - i.1) ⟨0, by intro j hj h; omega⟩ ?_ ?_ (fun i => ?_))
   ·exact zW
   ·exact zW
   refine Y60 ?_;refine Tri.cond rfl (fun h2 => ?_) (fun h2 => ?_)
   ·skip
    have hi : i.1 < ks.length := by rw [tms_length] at h2; simpa using h2
    refine Tri.skip ?_;refine tQ ?_;refine Tri.block ?_;refine Y45 ?_;refine s_val (v_index SS (h0 := by omega) (hp := tms_get hi)) ?_;refine yL ?_;refine s_val (v_callD (fun _ => ih ks[i.1] (by have := tsize_mem (List.getElem_mem hi); omega) (by omega))) ?_;refine Y74 ?_;refine Tri.cond rfl (fun h3 => ?_) (fun h3 => ?_)
    ·skip
     refine Y8 ?_;exact Tri.ret ⟨.inr rfl, ret1 rfl resV_tmp (bv_imp (by simp at h0; simp only [valM, valL_eq, h0.1, h0.2]; simp; exact ⟨h0, fun _ => ⟨_, List.getElem_mem hi, by simpa using h3⟩⟩))⟩
    ·skip
     have hnext : ∀ j (hj : j < ks.length), j < i.1 + 1 → valM ks[j] = true := fun j hj h => by
      rcases Nat.lt_or_ge j i.1 with h' | h'
      ·exact i.2 j hj h'
      ·obtain rfl : j = i.1 := by omega
       simpa using h3
     refine Tri.skip ?_;refine Y28 ?_
     refine ⟨⟨i.1 + 1, hnext⟩, by show ks.length - (i.1 + 1) < ks.length - i.1; omega, le_of ?_ ?_⟩
     ·exact zE
     ·exact zH
   ·skip
    have hi : ks.length ≤ i.1 := by rw [tms_length] at h2; simpa using h2
    have hall : ks.all valM = true := by
     rw [List.all_eq_true]
     intro x hx
     obtain ⟨j, hj, rfl⟩ := List.getElem_of_mem hx
     exact i.2 j hj (by omega)
    refine Tri.exit ?_;refine Y8 ?_;exact Tri.ret ⟨.inr rfl, ret1 rfl resV_tmp (bv_imp (by simp at h1; simp [valM, valL_eq, h1, hall]))⟩
end Go.Proofs.YtkcgkignhpepkaaGreatDoor

/- The reference: how many nodes, and how deep. -/
namespace Go.Proofs.YtkcgkignhpepkaaGreatDoor
open Go Hs
variable {G : List (Nat × TypeId × Pu)}
def foldW {α β : Type} (c : β → Bool) (f : β → α → β) : β → List α → β
 | b, [] => b
 | b, a :: l => if c b then foldW c f (f b a) l else b
theorem foldW_take {α β : Type} {c : β → Bool} {f : β → α → β} : ∀ {l : List α} {b : β} {i : Nat} (h : i < l.length), c (foldW c f b (l.take i)) = true → foldW c f b (l.take (i + 1)) = f (foldW c f b (l.take i)) l[i]
 | a :: l, b, 0, _, hc => by simp [foldW] at hc ⊢; simp [hc]
 | a :: l, b, i + 1, h, hc => by
  simp only [List.take_succ_cons, foldW, List.getElem_cons_succ] at hc ⊢
  split at hc
  ·rename_i h0; rw [if_pos h0, if_pos h0]; exact foldW_take (by simpa using h) hc
  ·rename_i h0; exact absurd hc h0
theorem foldW_done {α β : Type} {c : β → Bool} {f : β → α → β} : ∀ {l : List α} {b : β} {i : Nat}, c (foldW c f b (l.take i)) = false → foldW c f b l = foldW c f b (l.take i)
 | [], b, i, h => by simp
 | a :: l, b, 0, h => by simp [foldW] at h ⊢; intro h2; rw [h] at h2; cases h2
 | a :: l, b, i + 1, h => by
  simp only [List.take_succ_cons, foldW] at h ⊢
  split
  ·rename_i h0; rw [if_pos h0] at h; exact foldW_done h
  ·rfl
def cnt1 (most : Int) (a : Int × Int) : Bool := decide (a.1 ≤ most)
def add1 (a b : Int × Int) : Int × Int := (a.1 + b.1, max a.2 b.2)
def add2 (a b c : Int × Int) : Int × Int := (a.1 + b.1 + c.1, max (max a.2 b.2) c.2)
mutual
def extP (most : Int) : Pat → Int × Int
 | .mk _ _ _ ks => ((extPs most (1, 0) ks).1, (extPs most (1, 0) ks).2 + 1)
def extPs (most : Int) (a : Int × Int) : List Pat → Int × Int
 | [] => a
 | p :: ps => if cnt1 most a then extPs most (add1 a (extP (most - 1) p)) ps else a
end
theorem extPs_eq (most : Int) : ∀ (ks : List Pat) (a : Int × Int), extPs most a ks = foldW (cnt1 most) (fun a p => add1 a (extP (most - 1) p)) a ks
 | [], _ => rfl
 | p :: ps, a => by simp only [extPs, foldW, extPs_eq most ps]
mutual
def extT (most : Int) : Tm → Int × Int
 | .mk _ _ _ ks cs => ((extCs most (extTs most (1, 0) ks) cs).1, (extCs most (extTs most (1, 0) ks) cs).2 + 1)
def extTs (most : Int) (a : Int × Int) : List Tm → Int × Int
 | [] => a
 | p :: ps => if cnt1 most a then extTs most (add1 a (extT (most - 1) p)) ps else a
def extCs (most : Int) (a : Int × Int) : List Cs → Int × Int
 | [] => a
 | c :: cs => if cnt1 most a then extCs most (extC most a c) cs else a
def extC (most : Int) (a : Int × Int) : Cs → Int × Int
 | .mk p t => add2 a (extP (most - 1) p) (extT (most - 1) t)
end
theorem extTs_eq (most : Int) : ∀ (ks : List Tm) (a : Int × Int), extTs most a ks = foldW (cnt1 most) (fun a p => add1 a (extT (most - 1) p)) a ks
 | [], _ => rfl
 | p :: ps, a => by simp only [extTs, foldW, extTs_eq most ps]
theorem extCs_eq (most : Int) : ∀ (ks : List Cs) (a : Int × Int), extCs most a ks = foldW (cnt1 most) (extC most) a ks
 | [], _ => rfl
 | p :: ps, a => by simp only [extCs, foldW, extCs_eq most ps]
def Cnt (most : Int) (n d : Nat) (a : Int × Int) : Prop := (a.1 = n ∧ a.2 = d) ∨ (most < a.1 ∧ a.1 ≤ n ∧ 0 ≤ a.2 ∧ a.2 ≤ d)
theorem Cnt.b {most : Int} {n d : Nat} {a : Int × Int} (h : Cnt most n d a) : a.1 ≤ n ∧ 0 ≤ a.2 ∧ a.2 ≤ d := by unfold Cnt at h; omega
theorem Cnt.more {most : Int} {n d n' d' : Nat} {a : Int × Int} (h : Cnt most n d a) (hs : cnt1 most a = false) (hn : n ≤ n') (hd : d ≤ d') : Cnt most n' d' a := by
 simp only [cnt1, decide_eq_false_iff_not] at hs
 unfold Cnt at *; omega
mutual
theorem extP_cnt : ∀ (p : Pat) (most : Int), 1 ≤ (extP most p).1 ∧ Cnt most (psize p) (pdeep p) (extP most p)
 | .mk _ _ _ ks, most => by
  have := extPs_cnt ks most (1, 0) 1 0 (by simp) (.inl ⟨rfl, rfl⟩)
  simp only [extP, psize, pdeep]
  unfold Cnt at *
  simp only at *
  omega
theorem extPs_cnt : ∀ (ks : List Pat) (most : Int) (a : Int × Int) (n d : Nat), 1 ≤ a.1 → Cnt most n d a → 1 ≤ (extPs most a ks).1 ∧ Cnt most (n + psizeL ks) (max d (pdeepL ks)) (extPs most a ks)
 | [], most, a, n, d, h1, h => by simpa [extPs, psizeL, pdeepL] using ⟨h1, h⟩
 | p :: ps, most, a, n, d, h1, h => by
  simp only [extPs, psizeL, pdeepL]
  split
  ·rename_i hc
   have h2 := extP_cnt p (most - 1)
   have := extPs_cnt ps most (add1 a (extP (most - 1) p)) (n + psize p) (max d (pdeep p)) (by simp only [add1]; omega) (by
    simp only [cnt1, decide_eq_true_eq] at hc
    unfold Cnt add1 at *; simp only; omega)
   rw [Nat.add_assoc, Nat.max_assoc] at this
   exact this
  ·rename_i hc
   exact ⟨h1, h.more (by simpa using hc) (by omega) (by omega)⟩
end
mutual
theorem extT_cnt : ∀ (p : Tm) (most : Int), 1 ≤ (extT most p).1 ∧ Cnt most (tsize p) (tdeep p) (extT most p)
 | .mk _ _ _ ks cs, most => by
  obtain ⟨h1, h2⟩ := extTs_cnt ks most (1, 0) 1 0 (by simp) (.inl ⟨rfl, rfl⟩)
  have := extCs_cnt cs most _ _ _ h1 h2
  simp only [extT, tsize, tdeep]
  unfold Cnt at *
  simp only at *
  omega
theorem extTs_cnt : ∀ (ks : List Tm) (most : Int) (a : Int × Int) (n d : Nat), 1 ≤ a.1 → Cnt most n d a → 1 ≤ (extTs most a ks).1 ∧ Cnt most (n + tsizeL ks) (max d (tdeepL ks)) (extTs most a ks)
 | [], most, a, n, d, h1, h => by simpa [extTs, tsizeL, tdeepL] using ⟨h1, h⟩
 | p :: ps, most, a, n, d, h1, h => by
  simp only [extTs, tsizeL, tdeepL]
  split
  ·rename_i hc
   have h2 := extT_cnt p (most - 1)
   have := extTs_cnt ps most (add1 a (extT (most - 1) p)) (n + tsize p) (max d (tdeep p)) (by simp only [add1]; omega) (by
    simp only [cnt1, decide_eq_true_eq] at hc
    unfold Cnt add1 at *; simp only; omega)
   rw [Nat.add_assoc, Nat.max_assoc] at this
   exact this
  ·rename_i hc
   exact ⟨h1, h.more (by simpa using hc) (by omega) (by omega)⟩
theorem extCs_cnt : ∀ (ks : List Cs) (most : Int) (a : Int × Int) (n d : Nat), 1 ≤ a.1 → Cnt most n d a → 1 ≤ (extCs most a ks).1 ∧ Cnt most (n + csizeL ks) (max d (cdeepL ks)) (extCs most a ks)
 | [], most, a, n, d, h1, h => by simpa [extCs, csizeL, cdeepL] using ⟨h1, h⟩
 | .mk q t :: ps, most, a, n, d, h1, h => by
  simp only [extCs, csizeL, cdeepL]
  split
  ·rename_i hc
   have h2 := extT_cnt t (most - 1)
   have h3 := extP_cnt q (most - 1)
   have := extCs_cnt ps most (extC most a (.mk q t)) (n + csize (.mk q t)) (max d (cdeep (.mk q t))) (by simp only [extC, add2]; omega) (by
    simp only [cnt1, decide_eq_true_eq] at hc
    simp only [csize, cdeep]
    unfold Cnt at *; simp only [extC, add2]; omega)
   rw [Nat.add_assoc, Nat.max_assoc] at this
   exact this
  ·rename_i hc
   exact ⟨h1, h.more (by simpa using hc) (by omega) (by omega)⟩
end
abbrev twoV (x : Int × Int) : PV := .tup [iv .i64 x.1, iv .i64 x.2]
theorem foldP_b (most : Int) (ks : List Pat) (i : Nat) : 1 ≤ (extPs most (1, 0) (ks.take i)).1 ∧ (extPs most (1, 0) (ks.take i)).1 ≤ 1 + psizeL ks ∧ 0 ≤ (extPs most (1, 0) (ks.take i)).2 ∧ (extPs most (1, 0) (ks.take i)).2 ≤ psizeL ks := by
 obtain ⟨h1, h2⟩ := extPs_cnt (ks.take i) most (1, 0) 1 0 (by simp) (.inl ⟨rfl, rfl⟩)
 have h3 := psizeL_take (ks := ks) (i := i)
 have h4 := pdeepL_le (ks.take i)
 have := h2.b
 omega
theorem max_add1 (a b : Int) : (if a < b then b else a) = max a b := by omega
theorem rpsize_c : ∀ (N : Nat) (p : Pat), psize p ≤ N → N < 2^40 → ∀ most : Int, -2^50 ≤ most - N ∧ most ≤ 2^50 → FCall Tryz.prog G 187 [.pu (patc 0 p), iv .i64 most] (twoV (extP most p)) := by
 intro N
 induction N with
 | zero => intro p h; cases p; simp [psize] at h
 | succ N ih =>
 intro p hp hN most hm
 obtain ⟨k, n, r, ks⟩ := p
 simp only [psize] at hp
 have hlen := length_psizeL ks
 refine FCall.of_tri tbl 43 Tryz.func187 rfl rfl rfl fun w0 M ρ0 D0 => ?_
 refine yR ?_;refine s_box SS 2 ?_;refine yB ?_;refine yB ?_;refine e_seqN [2] ?_;refine Y3 ?_;refine yB ?_;refine e_seq ?_;refine Y8 ?_;refine Tri.block (Tri.loopW (σ := Nat) (fun i => ⟨[(2, .ptr 2 [] 104), (1, iv .i64 most), (8, iv .i64 i), (6, iv .i64 (extPs most (1, 0) (ks.take i)).1), (7, iv .i64 (extPs most (1, 0) (ks.take i)).2)], [(2, .var 104 (.pu (patc 0 (.mk k n r ks))))]⟩) (fun i => ks.length - i) 0 ?_ ?_ (fun i => ?_))
 ·exact zW
 ·exact zW
 refine Y37 ?_;refine Y24 ?_;refine Y22 ?_;refine xM ?_;refine Y17 ?_;refine Y0 ?_;refine Tri.cond rfl (fun h0 => ?_) (fun h0 => ?_)
 ·skip
  rw [pats_length] at h0
  simp only [Bool.and_eq_true, decide_eq_true_eq] at h0
  have hi : i < ks.length := by omega
  have hb := foldP_b most ks i
  have hsz := psizeL_get hi
  have hpe := (extP_cnt ks[i] (most - 1))
  have hpb := hpe.2.b
  have hpd := pdeep_le ks[i]
  have hnx : extPs most (1, 0) (ks.take (i + 1)) = add1 (extPs most (1, 0) (ks.take i)) (extP (most - 1) ks[i]) := by
   rw [extPs_eq, extPs_eq]; rw [extPs_eq] at h0
   exact foldW_take hi (by simp only [cnt1, decide_eq_true_eq]; exact h0.2)
  have hw : IntKind.wrap .i64 (most - 1) = most - 1 := wrap64 (by omega) (by omega)
  refine Tri.skip ?_;refine tQ ?_;refine Tri.block ?_;refine Y45 ?_;refine s_val (v_index SS (h0 := by omega) (hp := pats_get hi)) ?_;refine yL ?_;refine yM ?_;refine s_val (v_int SS) ?_
  simp only [hw]
  refine s_val (v_callD (fun _ => ih ks[i] (by omega) (by omega) (most - 1) (by omega))) ?_;refine Y65 ?_;refine Y10 ?_;refine Y52 ?_;refine Y42 ?_;refine s_val (v_maxD) ?_;refine yA ?_;refine Y10 ?_;refine Y28 ?_
  refine ⟨i + 1, by omega, le_of ?_ ?_⟩
  ·repeat (first | exact SubE.nil | refine SubE.cons rfl (by first | rfl | (rw [wrap64 (by omega) (by omega)]; rfl) | (first | (rw [hnx, wrap64 (by omega) (by omega)]; rfl) | (rw [hnx, max_add1]; rfl))) ?_)
  ·repeat (first | exact SubH.nil | refine SubH.cons rfl (by first | rfl | (rw [wrap64 (by omega) (by omega)]; rfl) | (first | (rw [hnx, wrap64 (by omega) (by omega)]; rfl) | (rw [hnx, max_add1]; rfl))) ?_)
 ·skip
  have hfin : extPs most (1, 0) (ks.take i) = extPs most (1, 0) ks := by
   rw [pats_length] at h0
   by_cases hi : i < ks.length
   ·rw [extPs_eq, extPs_eq]; rw [extPs_eq] at h0
    exact (foldW_done (by simp only [cnt1, decide_eq_false_iff_not]; simp at h0; have := h0 hi; omega)).symm
   ·rw [List.take_of_length_le (by omega)]
  rw [hfin]
  have hb := foldP_b most ks ks.length
  simp only [List.take_length] at hb
  refine Tri.exit ?_;refine Y52 ?_;refine Y72 ?_;exact Tri.ret ⟨.inr rfl, ret2 rfl resV_tmp (VImp.refl _) resV_tmp (iv_imp (by rw [wrap64 (by omega) (by omega)]; rfl))⟩
end Go.Proofs.YtkcgkignhpepkaaGreatDoor

/- The reference: whether a term is too long; the errors of patterns. -/
namespace Go.Proofs.YtkcgkignhpepkaaGreatDoor
open Go Hs
variable {G : List (Nat × TypeId × Pu)}
theorem foldT_b (most : Int) (ks : List Tm) (i : Nat) : 1 ≤ (extTs most (1, 0) (ks.take i)).1 ∧ (extTs most (1, 0) (ks.take i)).1 ≤ 1 + tsizeL ks ∧ 0 ≤ (extTs most (1, 0) (ks.take i)).2 ∧ (extTs most (1, 0) (ks.take i)).2 ≤ tsizeL ks := by
 obtain ⟨h1, h2⟩ := extTs_cnt (ks.take i) most (1, 0) 1 0 (by simp) (.inl ⟨rfl, rfl⟩)
 have h3 := tsizeL_take (ks := ks) (i := i)
 have h4 := tdeepL_le (ks.take i)
 have := h2.b
 omega
theorem csizeL_take : ∀ {ks : List Cs} {i : Nat}, csizeL (ks.take i) ≤ csizeL ks
 | [], i => by simp [csizeL]
 | p :: ps, 0 => by simp [csizeL]
 | p :: ps, i + 1 => by
  have := csizeL_take (ks := ps) (i := i)
  simp [csizeL]; omega
theorem foldC_b (most : Int) (ks : List Tm) (cs : List Cs) (i : Nat) : 1 ≤ (extCs most (extTs most (1, 0) ks) (cs.take i)).1 ∧ (extCs most (extTs most (1, 0) ks) (cs.take i)).1 ≤ 1 + tsizeL ks + csizeL cs ∧ 0 ≤ (extCs most (extTs most (1, 0) ks) (cs.take i)).2 ∧ (extCs most (extTs most (1, 0) ks) (cs.take i)).2 ≤ tsizeL ks + csizeL cs := by
 obtain ⟨h1, h2⟩ := extTs_cnt ks most (1, 0) 1 0 (by simp) (.inl ⟨rfl, rfl⟩)
 obtain ⟨h5, h6⟩ := extCs_cnt (cs.take i) most _ _ _ h1 h2
 have h3 := csizeL_take (ks := cs) (i := i)
 have h4 := cdeepL_le (cs.take i)
 have h7 := tdeepL_le ks
 have := h6.b
 omega
set_option maxHeartbeats 2000000 in
theorem rextent_c : ∀ (N : Nat) (t : Tm), tsize t ≤ N → N < 2^40 → ∀ most : Int, -2^50 ≤ most - N ∧ most ≤ 2^50 → FCall Tryz.prog G 125 [.pu (tmc 0 t), iv .i64 most] (twoV (extT most t)) := by
 intro N
 induction N with
 | zero => intro t h; have := tsize_pos t; omega
 | succ N ih =>
 intro t hp hN most hm
 obtain ⟨k, n, r, ks, cs⟩ := t
 simp only [tsize] at hp
 have hlen := length_tsizeL ks
 have hlenc := length_csizeL cs
 refine FCall.of_tri tbl 93 Tryz.func125 rfl rfl rfl fun w0 M ρ0 D0 => ?_
 refine yR ?_;refine s_box SS 2 ?_;refine yB ?_;refine yB ?_;refine e_seqN [2] ?_;refine Y3 ?_;refine yB ?_;refine e_seq ?_;refine Y8 ?_;refine Tri.block (Tri.loopW (σ := Nat) (fun i => ⟨[(2, .ptr 2 [] 32), (1, iv .i64 most), (8, iv .i64 i), (6, iv .i64 (extTs most (1, 0) (ks.take i)).1), (7, iv .i64 (extTs most (1, 0) (ks.take i)).2)], [(2, .var 32 (.pu (tmc 0 (.mk k n r ks cs))))]⟩) (fun i => ks.length - i) 0 ?_ ?_ (fun i => ?_))
 ·exact zW
 ·exact zW
 refine Y37 ?_;refine Y24 ?_;refine Y22 ?_;refine xM ?_;refine Y17 ?_;refine Y0 ?_;refine Tri.cond rfl (fun h0 => ?_) (fun h0 => ?_)
 ·skip
  rw [tms_length] at h0
  simp only [Bool.and_eq_true, decide_eq_true_eq] at h0
  have hi : i < ks.length := by omega
  have hb := foldT_b most ks i
  have hsz := tsize_mem (List.getElem_mem hi)
  have hpb := (extT_cnt ks[i] (most - 1)).2.b
  have hpo := (extT_cnt ks[i] (most - 1)).1
  have hpd := tdeep_le ks[i]
  have hnx : extTs most (1, 0) (ks.take (i + 1)) = add1 (extTs most (1, 0) (ks.take i)) (extT (most - 1) ks[i]) := by
   rw [extTs_eq, extTs_eq]; rw [extTs_eq] at h0
   exact foldW_take hi (by simp only [cnt1, decide_eq_true_eq]; exact h0.2)
  have hw : IntKind.wrap .i64 (most - 1) = most - 1 := wrap64 (by omega) (by omega)
  refine Tri.skip ?_;refine tQ ?_;refine Tri.block ?_;refine Y45 ?_;refine s_val (v_index SS (h0 := by omega) (hp := tms_get hi)) ?_;refine yL ?_;refine yM ?_;refine s_val (v_int SS) ?_
  simp only [hw]
  refine s_val (v_callD (fun _ => ih ks[i] (by omega) (by omega) (most - 1) (by omega))) ?_;refine Y65 ?_;refine Y10 ?_;refine Y52 ?_;refine Y42 ?_;refine s_val (v_maxD) ?_;refine yA ?_;refine Y10 ?_;refine Y28 ?_
  refine ⟨i + 1, by omega, le_of ?_ ?_⟩
  ·repeat (first | exact SubE.nil | refine SubE.cons rfl (by first | rfl | (rw [wrap64 (by omega) (by omega)]; rfl) | (first | (rw [hnx, wrap64 (by omega) (by omega)]; rfl) | (rw [hnx, max_add1]; rfl))) ?_)
  ·repeat (first | exact SubH.nil | refine SubH.cons rfl (by first | rfl | (rw [wrap64 (by omega) (by omega)]; rfl) | (first | (rw [hnx, wrap64 (by omega) (by omega)]; rfl) | (rw [hnx, max_add1]; rfl))) ?_)
 ·skip
  have hfin : extTs most (1, 0) (ks.take i) = extTs most (1, 0) ks := by
   rw [tms_length] at h0
   by_cases hi : i < ks.length
   ·rw [extTs_eq, extTs_eq]; rw [extTs_eq] at h0
    exact (foldW_done (by simp only [cnt1, decide_eq_false_iff_not]; simp at h0; have := h0 hi; omega)).symm
   ·rw [List.take_of_length_le (by omega)]
  rw [hfin];refine Tri.exit ?_;refine Y8 ?_;refine Tri.block (Tri.loopW (σ := Nat) (fun i => ⟨[(2, .ptr 2 [] 32), (1, iv .i64 most), (11, iv .i64 i), (6, iv .i64 (extCs most (extTs most (1, 0) ks) (cs.take i)).1), (7, iv .i64 (extCs most (extTs most (1, 0) ks) (cs.take i)).2)], [(2, .var 32 (.pu (tmc 0 (.mk k n r ks cs))))]⟩) (fun i => cs.length - i) 0 ?_ ?_ (fun i => ?_))
  ·exact zW
  ·exact zW
  refine Y37 ?_;refine Y24 ?_;refine Y22 ?_;refine xM ?_;refine Y17 ?_;refine Y0 ?_;refine Tri.cond rfl (fun h1 => ?_) (fun h1 => ?_)
  ·skip
   rw [css_length] at h1
   simp only [Bool.and_eq_true, decide_eq_true_eq] at h1
   have hi : i < cs.length := by omega
   have hb := foldC_b most ks cs i
   have hsz := csize_mem (List.getElem_mem hi)
   have hget := css_get (lo := 0) hi
   have hnx : extCs most (extTs most (1, 0) ks) (cs.take (i + 1)) = extC most (extCs most (extTs most (1, 0) ks) (cs.take i)) cs[i] := by
    rw [extCs_eq, extCs_eq]; rw [extCs_eq] at h1
    exact foldW_take hi (by simp only [cnt1, decide_eq_true_eq]; exact h1.2)
   generalize cs[i] = ci at hsz hget hnx
   obtain ⟨q, b⟩ := ci
   simp only [csize] at hsz
   simp only [extC, add2] at hnx
   have hpb := (extT_cnt b (most - 1)).2.b
   have hpo := (extT_cnt b (most - 1)).1
   have hpd := tdeep_le b
   have hqb := (extP_cnt q (most - 1)).2.b
   have hqo := (extP_cnt q (most - 1)).1
   have hqd := pdeep_le q
   have hqp := psize_pos q
   have htp := tsize_pos b
   have hw : IntKind.wrap .i64 (most - 1) = most - 1 := wrap64 (by omega) (by omega)
   have hw2 : IntKind.wrap .i64 (IntKind.wrap .i64 ((extCs most (extTs most (1, 0) ks) (cs.take i)).1 + (extP (most - 1) q).1) + (extT (most - 1) b).1) = (extCs most (extTs most (1, 0) ks) (cs.take i)).1 + (extP (most - 1) q).1 + (extT (most - 1) b).1 := by
    rw [wrap64 (n := (extCs most (extTs most (1, 0) ks) (cs.take i)).1 + (extP (most - 1) q).1) (by omega) (by omega), wrap64 (by omega) (by omega)]
   refine Tri.skip ?_;refine tQ ?_;refine Tri.block ?_;refine Y45 ?_;refine s_val (v_index SS (h0 := by omega) (hp := hget)) ?_;refine Y4 ?_;refine yM ?_;refine s_val (v_int SS) ?_
   simp only [hw]
   refine s_val (v_callD (fun _ => rpsize_c _ q (Nat.le_refl _) (by omega) (most - 1) (by omega))) ?_;refine Y65 ?_;refine Y10 ?_;refine Y45 ?_;refine s_val (v_index SS (h0 := by omega) (hp := hget)) ?_;refine Y4 ?_;refine yM ?_;refine s_val (v_int SS) ?_
   simp only [hw]
   refine s_val (v_callD (fun _ => ih b (by omega) (by omega) (most - 1) (by omega))) ?_;refine Y65 ?_;refine Y10 ?_;refine Y52 ?_;refine yM ?_;refine yI ?_;refine Y42 ?_;refine yM ?_;refine s_val (v_max3) ?_;refine yA ?_;refine Y10 ?_;refine Y28 ?_
   refine ⟨i + 1, by omega, le_of ?_ ?_⟩
   ·repeat (first | exact SubE.nil | refine SubE.cons rfl (by first | rfl | (rw [wrap64 (by omega) (by omega)]; rfl) | (first | (rw [hw2, hnx]) | (rw [hnx]))) ?_)
   ·repeat (first | exact SubH.nil | refine SubH.cons rfl (by first | rfl | (rw [wrap64 (by omega) (by omega)]; rfl) | (first | (rw [hw2, hnx]) | (rw [hnx]))) ?_)
  ·skip
   have hfin : extCs most (extTs most (1, 0) ks) (cs.take i) = extCs most (extTs most (1, 0) ks) cs := by
    rw [css_length] at h1
    by_cases hi : i < cs.length
    ·rw [extCs_eq, extCs_eq]; rw [extCs_eq] at h1
     exact (foldW_done (by simp only [cnt1, decide_eq_false_iff_not]; simp at h1; have := h1 hi; omega)).symm
    ·rw [List.take_of_length_le (by omega)]
   rw [hfin]
   have hb := foldC_b most ks cs cs.length
   simp only [List.take_length] at hb
   refine Tri.exit ?_;refine Y52 ?_;refine Y72 ?_;exact Tri.ret ⟨.inr rfl, ret2 rfl resV_tmp (VImp.refl _) resV_tmp (iv_imp (by rw [wrap64 (by omega) (by omega)]; rfl))⟩
end Go.Proofs.YtkcgkignhpepkaaGreatDoor

/- The reference: the errors of patterns and terms. -/
namespace Go.Proofs.YtkcgkignhpepkaaGreatDoor
open Go Hs
variable {G : List (Nat × TypeId × Pu)}
theorem ext_long {mn md most : Int} (t : Tm) (hm : mn ≤ most) : (decide ((extT most t).1 > mn) || decide ((extT most t).2 > md)) = (longT mn md 1 0 t).1 := by
 have h1 := (extT_cnt t most).2
 obtain ⟨h2, h3⟩ := longT_ls mn md t 1 0
 unfold Cnt at h1
 by_cases h : 0 + (tsize t : Int) ≤ mn ∧ 1 + (tdeep t : Int) ≤ md + 1
 ·rw [h2 h]; simp only [Bool.or_eq_false_iff, decide_eq_false_iff_not]; omega
 ·rw [h3 h]; simp only [Bool.or_eq_true, decide_eq_true_eq]; omega
theorem rlong_c (t : Tm) (hN : tsize t < 2^40) : FCall Tryz.prog G 147 [.pu (tmc 0 t)] (bv (longT 300 60 1 0 t).1) := by
 refine FCall.of_tri tbl 16 Tryz.func147 rfl rfl rfl fun w0 M ρ0 D0 => ?_
 refine yR ?_;refine s_box SS 1 ?_;refine yB ?_;refine e_seqN [1] ?_;refine Y6 ?_;refine s_val (v_callD (fun _ => rextent_c _ t (Nat.le_refl _) hN 400 (by omega))) ?_;refine Y65 ?_;refine Y10 ?_;refine Y44 ?_;refine Y18 ?_;refine Y2 ?_;exact Tri.ret ⟨.inr rfl, ret1 rfl resV_tmp (bv_imp (ext_long t (by omega)))⟩
theorem rclash (a b c : Bool) (n : Int) (r : List Int) (m : Int) : ((!a && n != 0) || (!b && !(r == Z32)) || (!c && decide (m > 0))) = clashM a b c n r m := by
 unfold clashM
 cases a <;> cases b <;> cases c <;> simp
theorem rpclash (k n : Int) (r : List Int) : ((k == 1 && n != 0) || (k != 3 && !(r == Z32))) = true ∧ offM k 1 3 = false ↔ clashM (k == 2 || k == 3) (k == 3) false n r 0 = true ∧ offM k 1 3 = false := by
 unfold clashM offM
 by_cases h1 : k = 1
 ·subst h1; simp
 ·by_cases h2 : k = 2
  ·subst h2; simp
  ·by_cases h3 : k = 3
   ·subst h3; simp
   ·constructor
    ·rintro ⟨_, h⟩; simp at h; omega
    ·rintro ⟨_, h⟩; simp at h; omega
set_option maxHeartbeats 1000000 in
theorem rperr_c : ∀ (N : Nat) (p : Pat), psize p ≤ N → N < 2^40 → FCall Tryz.prog G 216 [.pu (patc 0 p)] (iv .i64 (perr p)) := by
 intro N
 induction N with
 | zero => intro p h; cases p; simp [psize] at h
 | succ N ih =>
 intro p hp hN
 obtain ⟨k, n, r, ks⟩ := p
 simp only [psize] at hp
 have hlen := length_psizeL ks
 refine FCall.of_tri tbl 76 Tryz.func216 rfl rfl rfl fun w0 M ρ0 D0 => ?_
 refine Tri.fact (i := 0) rfl (fun D w x h => pat_wf h) (fun hr => ?_)
 simp only [wfP] at hr
 refine yR ?_;refine s_box SS 1 ?_;refine yB ?_;refine e_seqN [1] ?_;refine Y13 ?_;refine s_val (v_callD (fun _ => roff_c k 1 3)) ?_;refine Y0 ?_;refine Tri.cond rfl (fun h0 => ?_) (fun h0 => ?_)
 ·skip
  refine Y8 ?_;exact Tri.ret ⟨.inr rfl, ret1 rfl resV_tmp (iv_imp (by simp [perr, patErr, h0]))⟩
 ·skip
  refine Tri.skip ?_;refine Y41 ?_;refine Y17 ?_;refine Y11 ?_;refine Y69 ?_;refine Y5 ?_
  first | refine s_gg zG (v_lit0 SS) ?_ | refine s_gg zG (v_litP SS) ?_ | refine s_gg zG (v_litA SS) ?_
  refine s_gg zG (v_bin SS (h := bin_neS (hr.1.trans rfl))) ?_;refine xN ?_;refine yO ?_;refine Y0 ?_;refine Tri.cond rfl (fun h1 => ?_) (fun h1 => ?_)
  ·skip
   have hcl := (rpclash k n r).1 ⟨by simpa using h1, h0⟩
   refine Y8 ?_;exact Tri.ret ⟨.inr rfl, ret1 rfl resV_tmp (iv_imp (by simp [perr, patErr, h0, hcl.1]))⟩
  ·skip
   have hcl : clashM (k == 2 || k == 3) (k == 3) false n r 0 = false := by
    cases hc : clashM (k == 2 || k == 3) (k == 3) false n r 0
    ·rfl
    ·have := ((rpclash k n r).2 ⟨hc, h0⟩).1
     rw [show ((k == 1 && n != 0) || (k != 3 && !(r == Z32))) = false by simpa using h1] at this
     cases this
   refine Tri.skip ?_;refine Y41 ?_;refine xC ?_;refine Y17 ?_;refine Y11 ?_;refine xC ?_;refine Y59 ?_;refine Tri.cond rfl (fun h2 => ?_) (fun h2 => ?_)
   ·skip
    rw [pats_length] at h2
    have hmany : decide (((ks.length : Nat) : Int) > (if k == 3 then 4 else 0)) = true := by
     simp only [Bool.or_eq_true, Bool.and_eq_true, bne_iff_ne, ne_eq, decide_eq_true_eq] at h2 ⊢
     split <;> simp_all <;> omega
    refine Y8 ?_;exact Tri.ret ⟨.inr rfl, ret1 rfl resV_tmp (iv_imp (by simp only [perr, patErr, h0, hcl, hmany]; simp))⟩
   ·skip
    rw [pats_length] at h2
    have hmany : decide (((ks.length : Nat) : Int) > (if k == 3 then 4 else 0)) = false := by
     simp only [Bool.or_eq_false_iff, Bool.and_eq_false_iff, bne_eq_false_iff_eq, decide_eq_false_iff_not] at h2 ⊢
     split <;> simp_all <;> omega
    refine Tri.skip ?_;refine Y41 ?_;refine s_gg zG (v_callD (fun _ => roff_c n 0 1073741824)) ?_;refine yN ?_;refine Y11 ?_;refine Y69 ?_;refine Y5 ?_;refine s_gg zG (v_callD (fun _ => roff_c n 0 7)) ?_;refine xN ?_;refine yO ?_;refine Y0 ?_;refine Tri.cond rfl (fun h3 => ?_) (fun h3 => ?_)
    ·skip
     have hpe : patErr k n r ks.length = 3 := by simp only [patErr, h0, hcl, hmany, h3]; simp
     refine Y8 ?_;exact Tri.ret ⟨.inr rfl, ret1 rfl resV_tmp (iv_imp (by simp [perr, hpe]))⟩
    ·skip
     have hpe : patErr k n r ks.length = 0 := by simp only [patErr, h0, hcl, hmany, h3]; simp
     have hpf : perr (.mk k n r ks) = firstE perr ks := by simp [perr, hpe, perrL_eq]
     refine Tri.skip ?_;refine Y8 ?_;refine Tri.block (Tri.loopW (σ := {i : Nat // firstE perr (ks.take i) = 0}) (fun i => ⟨[(1, .ptr 1 [] 104), (3, iv .i64 i.1)], [(1, .var 104 (.pu (patc 0 (.mk k n r ks))))]⟩) (fun i => ks.length - i.1) ⟨0, rfl⟩ ?_ ?_ (fun i => ?_))
     ·exact zW
     ·exact zW
     refine Y60 ?_;refine Tri.cond rfl (fun h4 => ?_) (fun h4 => ?_)
     ·skip
      have hi : i.1 < ks.length := by rw [pats_length] at h4; simpa using h4
      refine Tri.skip ?_;refine tQ ?_;refine Tri.block ?_;refine Y45 ?_;refine s_val (v_index SS (h0 := by omega) (hp := pats_get hi)) ?_;refine yL ?_;refine s_val (v_callD (fun _ => ih ks[i.1] (by have := psizeL_get hi; omega) (by omega))) ?_;refine Y47 ?_;refine Tri.cond rfl (fun h5 => ?_) (fun h5 => ?_)
      ·skip
       have h5' : perr ks[i.1] ≠ 0 := by simpa using h5
       have hf : firstE perr (ks.take (i.1 + 1)) = perr ks[i.1] := by rw [firstE_take _ hi, if_pos i.2]
       have hf2 := firstE_pre perr (l := ks) (i := i.1 + 1) (by rw [hf]; exact h5')
       refine Y61 ?_;exact Tri.ret ⟨.inr rfl, ret1 rfl resV_tmp (iv_imp (by rw [hpf, hf2, hf]))⟩
      ·skip
       have h5' : perr ks[i.1] = 0 := by simpa using h5
       have hnext : firstE perr (ks.take (i.1 + 1)) = 0 := by rw [firstE_take _ hi, if_pos i.2, h5']
       refine Tri.skip ?_;refine Y28 ?_
       refine ⟨⟨i.1 + 1, hnext⟩, by show ks.length - (i.1 + 1) < ks.length - i.1; omega, le_of ?_ ?_⟩
       ·exact zE
       ·exact zH
     ·skip
      have hz1 : firstE perr ks = 0 := by have := i.2; rwa [List.take_of_length_le (by rw [pats_length] at h4; simp at h4; omega)] at this
      refine Tri.exit ?_;refine Y8 ?_;exact Tri.ret ⟨.inr rfl, ret1 rfl resV_tmp (iv_imp (by rw [hpf, hz1]))⟩
end Go.Proofs.YtkcgkignhpepkaaGreatDoor

/- The reference: the errors of terms, and of worlds. -/
namespace Go.Proofs.YtkcgkignhpepkaaGreatDoor
open Go Hs
variable {G : List (Nat × TypeId × Pu)}
theorem rkids_off (k : Int) (n : Nat) : offM (n : Int) (rkidsM k).1 (rkidsM k).2 = !kidsM k n := by
 unfold rkidsM kidsM offM
 split
 ·rw [Bool.eq_iff_iff]; simp; omega
 ·split
  ·rw [Bool.eq_iff_iff]; simp; omega
  ·split
   ·rw [Bool.eq_iff_iff]; simp; omega
   ·split
    ·rw [Bool.eq_iff_iff]; simp
    ·rw [Bool.eq_iff_iff]; simp; omega
theorem aerrK_eq (m d b k : Int) : ∀ (ks : List Tm) (i : Nat), aerrK m d b k i ks = firstE (fun x : Nat × Tm => aerr m d (b + moreM k x.1) x.2) (ks.mapIdx fun j t => (i + j, t))
 | [], i => rfl
 | t :: ts, i => by
  have ih := aerrK_eq m d b k ts (i + 1)
  simp only [aerrK, List.mapIdx_cons, firstE, Nat.add_zero, orE]
  rw [ih, show (fun (j : Nat) (t : Tm) => (i + (j + 1), t)) = fun j t => (i + 1 + j, t) by funext j t; rw [show i + (j + 1) = i + 1 + j by omega]]
theorem aerrC_eq (m d b : Int) : ∀ (cs : List Cs), aerrC m d b cs = firstE (aerrCs m d b) cs
 | [] => rfl
 | c :: cs => by simp only [aerrC, firstE, aerrC_eq m d b cs, orE]
theorem notOff {k : Int} (h : offM k 1 12 = false) : 1 ≤ k ∧ k ≤ 12 := by unfold offM at h; simp at h; omega
set_option maxHeartbeats 4000000 in
theorem rnode_c (members depth : Int) : ∀ (N : Nat) (t : Tm), tsize t ≤ N → N < 2^40 → ∀ bound : Int, 0 ≤ bound → bound + 2 * tsize t ≤ 2^42 →
  FCall Tryz.prog G 148 [.pu (tmc 0 t), iv .i64 depth, iv .i64 members, iv .i64 bound] (iv .i64 (aerr members depth bound t)) := by
 intro N
 induction N with
 | zero => intro t h; have := tsize_pos t; omega
 | succ N ih =>
 intro t hp hN bound hb0 hb1
 obtain ⟨k, n, r, ks, cs⟩ := t
 simp only [tsize] at hp hb1
 have hlen := length_tsizeL ks
 have hlenc := length_csizeL cs
 refine FCall.of_tri tbl 210 Tryz.func148 rfl rfl rfl fun w0 M ρ0 D0 => ?_
 refine Tri.fact (i := 0) rfl (fun D w x h => tm_wf h) (fun hr => ?_)
 simp only [wfT] at hr
 have hterm : ∀ e, termErr members depth bound k n r ks.length cs.length = e → e ≠ 0 → aerr members depth bound (.mk k n r ks cs) = e := fun e h h0 => by
  simp only [aerr, orE, h, if_neg h0]
 refine yR ?_;refine s_box SS 4 ?_;refine yB ?_;refine e_seqN [4] ?_;refine Y13 ?_;refine s_val (v_callD (fun _ => roff_c k 1 12)) ?_;refine Y0 ?_;refine Tri.cond rfl (fun h0 => ?_) (fun h0 => ?_)
 ·skip
  refine Y8 ?_;exact Tri.ret ⟨.inr rfl, ret1 rfl resV_tmp (iv_imp (by rw [hterm 3 (by simp [termErr, h0]) (by simp)]))⟩
 ·skip
  refine Tri.skip ?_;refine Y13 ?_;refine s_val (v_callD (fun _ => rhasNum_c k)) ?_;refine yQ ?_;refine Y11 ?_;refine Y17 ?_;refine Y11 ?_;refine s_gg zG (v_callD (fun _ => rhasRef_c k)) ?_;refine xQ ?_;refine xM ?_;refine Y5 ?_
  first | refine s_gg zG (v_lit0 SS) ?_ | refine s_gg zG (v_litP SS) ?_ | refine s_gg zG (v_litA SS) ?_
  refine s_gg zG (v_bin SS (h := bin_neS (hr.1.trans rfl))) ?_;refine xN ?_;refine yO ?_;refine Y11 ?_;refine Y69 ?_;refine Y5 ?_;refine xC ?_;refine xI ?_;refine xN ?_;refine yO ?_;refine Y0 ?_;refine Tri.cond rfl (fun h1 => ?_) (fun h1 => ?_)
  ·skip
   have hcl : clashM (hasNumM k) (hasRefM k) (hasCasesM k) n r cs.length = true := by rw [css_length] at h1; rw [← rclash]; exact h1
   refine Y8 ?_;exact Tri.ret ⟨.inr rfl, ret1 rfl resV_tmp (iv_imp (by rw [hterm 7 (by simp [termErr, h0, hcl]) (by simp)]))⟩
  ·skip
   have hcl : clashM (hasNumM k) (hasRefM k) (hasCasesM k) n r cs.length = false := by rw [css_length] at h1; rw [← rclash]; exact h1
   refine Tri.skip ?_;refine Y13 ?_;refine s_val (v_callD (fun _ => rkids_c k)) ?_;refine Y65 ?_;refine Y10 ?_;refine Y14 ?_;refine yC ?_;refine Y42 ?_;refine s_val (v_callD (fun _ => roff_c _ (rkidsM k).1 (rkidsM k).2)) ?_;refine Y11 ?_;refine xC ?_;refine Y59 ?_;refine Tri.cond rfl (fun h2 => ?_) (fun h2 => ?_)
   ·skip
    have hmany : (!kidsM k ks.length || decide ((cs.length : Int) > 8)) = true := by rw [tms_length, css_length, rkids_off] at h2; exact h2
    refine Y8 ?_;exact Tri.ret ⟨.inr rfl, ret1 rfl resV_tmp (iv_imp (by rw [hterm 2 (by simp only [termErr, h0, hcl, hmany]; simp) (by simp)]))⟩
   ·skip
    have hmany : (!kidsM k ks.length || decide ((cs.length : Int) > 8)) = false := by rw [tms_length, css_length, rkids_off] at h2; exact h2
    refine Tri.skip ?_;refine Y41 ?_;refine s_gg zG (v_callD (fun _ => roff_c n 0 1073741824)) ?_;refine yN ?_;refine Y11 ?_;refine Y69 ?_;refine Y5 ?_;refine s_gg zG (v_callD (fun _ => roff_c n 1 5)) ?_;refine xN ?_;refine yO ?_;refine Y11 ?_;refine Y69 ?_;refine Y5 ?_;refine xI ?_;refine xO ?_;refine xM ?_;refine Y5 ?_;refine s_gg zG (v_callD (fun _ => roff_c n 0 7)) ?_;refine xN ?_;refine yO ?_;refine Y0 ?_;refine Tri.cond rfl (fun h3 => ?_) (fun h3 => ?_)
    ·skip
     have he3 : termErr members depth bound k n r ks.length cs.length = 3 := by
      simp only [termErr, h0, hcl, hmany]
      simp only [Bool.or_eq_true, Bool.and_eq_true, beq_iff_eq] at h3
      rcases h3 with (⟨rfl, h⟩ | ⟨rfl, h⟩) | ⟨rfl | rfl, h⟩ <;> simp [h]
     refine Y8 ?_;exact Tri.ret ⟨.inr rfl, ret1 rfl resV_tmp (iv_imp (by rw [hterm 3 he3 (by simp)]))⟩
    ·skip
     refine Tri.skip ?_;refine Y41 ?_;refine Y69 ?_;refine Y5 ?_;refine xM ?_;refine Y69 ?_;refine Y5 ?_;refine xM ?_;refine Y69 ?_;refine xI ?_;refine xN ?_;refine xO ?_;refine yN ?_;refine Y11 ?_;refine Y69 ?_;refine Y5 ?_;refine Y69 ?_;refine Y5 ?_;refine xM ?_;refine xI ?_;refine xO ?_;refine xN ?_;refine yO ?_;refine Y0 ?_;refine Tri.cond rfl (fun h4 => ?_) (fun h4 => ?_)
     ·skip
      have he1 : termErr members depth bound k n r ks.length cs.length = 1 := by
       simp only [termErr, h0, hcl, hmany]
       simp only [Bool.or_eq_true, Bool.and_eq_true, beq_iff_eq, decide_eq_true_eq] at h4
       rcases h4 with ⟨rfl, h⟩ | ⟨rfl, h⟩
       ·have hk : knownM depth n bound = false := by unfold knownM; simp; omega
        simp [hk]
       ·simp [h]
      refine Y8 ?_;exact Tri.ret ⟨.inr rfl, ret1 rfl resV_tmp (iv_imp (by rw [hterm 1 he1 (by simp)]))⟩
     ·skip
      have he0 : termErr members depth bound k n r ks.length cs.length = 0 := by
       simp only [termErr, h0, hcl, hmany]
       simp only [Bool.or_eq_false_iff, Bool.and_eq_false_iff, beq_eq_false_iff_ne, ne_eq, decide_eq_false_iff_not] at h3 h4
       have hk : k = 1 → knownM depth n bound = true := fun e => by unfold knownM; simp; omega
       by_cases k1 : k = 1
       ·subst k1; simp [hk rfl]
       ·by_cases k2 : k = 2
        ·subst k2; simp at h3; simp [h3]
        ·by_cases k7 : k = 7
         ·subst k7; simp at h4; simp; omega
         ·by_cases k8 : k = 8
          ·subst k8; simp at h3; simp [h3]
          ·by_cases k10 : k = 10
           ·subst k10; simp at h3; simp [h3]
           ·by_cases k11 : k = 11
            ·subst k11; simp at h3; simp [h3]
            ·simp [k1, k2, k7, k8, k10, k11]
      have hrest : aerr members depth bound (.mk k n r ks cs) = orE (firstE (fun c => perr (csP c)) cs) (orE (aerrK members depth bound k 0 ks) (aerrC members depth bound cs)) := by simp only [aerr, he0]; rfl
      refine Tri.skip ?_;refine Y8 ?_;refine Tri.block (Tri.loopW (σ := {i : Nat // firstE (fun c => perr (csP c)) (cs.take i) = 0}) (fun i => ⟨[(4, .ptr 4 [] 32), (1, iv .i64 depth), (2, iv .i64 members), (3, iv .i64 bound), (11, iv .i64 i.1)], [(4, .var 32 (.pu (tmc 0 (.mk k n r ks cs))))]⟩) (fun i => cs.length - i.1) ⟨0, rfl⟩ ?_ ?_ (fun i => ?_))
      ·exact zW
      ·exact zW
      refine Y60 ?_;refine Tri.cond rfl (fun h5 => ?_) (fun h5 => ?_)
      ·skip
       have hi : i.1 < cs.length := by rw [css_length] at h5; simpa using h5
       have hcz := csize_mem (List.getElem_mem hi)
       have hpz : psize (csP cs[i.1]) ≤ csize cs[i.1] := by generalize cs[i.1] = c; cases c; simp only [csP, csize]; omega
       have hget := css_get (lo := 0) hi
       rw [css_pat] at hget
       refine Tri.skip ?_;refine tQ ?_;refine Tri.block ?_;refine Y45 ?_;refine s_val (v_index SS (h0 := by omega) (hp := hget)) ?_;refine Y4 ?_;refine s_val (v_callD (fun _ => rperr_c _ (csP cs[i.1]) (Nat.le_refl _) (by omega))) ?_;refine Y47 ?_;refine Tri.cond rfl (fun h6 => ?_) (fun h6 => ?_)
       ·skip
        have h6' : perr (csP cs[i.1]) ≠ 0 := by simpa using h6
        have hf : firstE (fun c => perr (csP c)) (cs.take (i.1 + 1)) = perr (csP cs[i.1]) := by rw [firstE_take _ hi, if_pos i.2]
        have hf2 := firstE_pre (fun c => perr (csP c)) (l := cs) (i := i.1 + 1) (by rw [hf]; exact h6')
        refine Y61 ?_;exact Tri.ret ⟨.inr rfl, ret1 rfl resV_tmp (iv_imp (by simp only [hrest, orE, hf2, hf, if_neg h6']))⟩
       ·skip
        have h6' : perr (csP cs[i.1]) = 0 := by simpa using h6
        have hnext : firstE (fun c => perr (csP c)) (cs.take (i.1 + 1)) = 0 := by rw [firstE_take _ hi, if_pos i.2, h6']
        refine Tri.skip ?_;refine Y28 ?_
        refine ⟨⟨i.1 + 1, hnext⟩, by show cs.length - (i.1 + 1) < cs.length - i.1; omega, le_of ?_ ?_⟩
        ·exact zE
        ·exact zH
      ·skip
       have hz1 : firstE (fun c => perr (csP c)) cs = 0 := by have := i.2; rwa [List.take_of_length_le (by rw [css_length] at h5; simp at h5; omega)] at this
       clear h0 h1 h2 h3 h4 h5 hcl hmany;refine Tri.exit ?_;refine Y8 ?_;refine Tri.block (Tri.loopW (σ := {i : Nat // firstE (fun x : Nat × Tm => aerr members depth (bound + moreM k x.1) x.2) ((ks.mapIdx fun j t => (0 + j, t)).take i) = 0}) (fun i => ⟨[(4, .ptr 4 [] 32), (1, iv .i64 depth), (2, iv .i64 members), (3, iv .i64 bound), (13, iv .i64 i.1)], [(4, .var 32 (.pu (tmc 0 (.mk k n r ks cs))))]⟩) (fun i => ks.length - i.1) ⟨0, rfl⟩ ?_ ?_ (fun i => ?_))
       ·exact zW
       ·exact zW
       refine Y60 ?_;refine Tri.cond rfl (fun h7 => ?_) (fun h7 => ?_)
       ·skip
        have hi : i.1 < ks.length := by rw [tms_length] at h7; simpa using h7
        have hmb := more_b k i.1
        have hsz := tsize_mem (List.getElem_mem hi)
        have hil : i.1 < (ks.mapIdx fun j t => (0 + j, t)).length := by simpa using hi
        have hel : (ks.mapIdx fun j t => (0 + j, t))[i.1] = (i.1, ks[i.1]) := by simp
        refine Tri.skip ?_;refine tQ ?_;refine Tri.block ?_;refine Y45 ?_;refine s_val (v_index SS (h0 := by omega) (hp := tms_get hi)) ?_;refine yL ?_;refine Y42 ?_;refine yM ?_;refine Y4 ?_;refine yM ?_;refine s_val (v_callD (fun _ => rmore_c k i.1)) ?_;refine s_val (v_int SS) ?_;rw [wrap64 (n := bound + moreM k i.1) (by omega) (by omega)];refine s_val (v_callD (fun _ => ih ks[i.1] (by omega) (by omega) (bound + moreM k i.1) (by omega) (by omega))) ?_;refine yA ?_;refine e_draw ?_;refine Y34 ?_;refine Tri.cond rfl (fun h8 => ?_) (fun h8 => ?_)
        ·skip
         have h8' : aerr members depth (bound + moreM k i.1) ks[i.1] ≠ 0 := by simpa using h8
         have hf : firstE (fun x : Nat × Tm => aerr members depth (bound + moreM k x.1) x.2) ((ks.mapIdx fun j t => (0 + j, t)).take (i.1 + 1)) = aerr members depth (bound + moreM k i.1) ks[i.1] := by rw [firstE_take _ hil, if_pos i.2, hel]
         have hf2 := firstE_pre (fun x : Nat × Tm => aerr members depth (bound + moreM k x.1) x.2) (l := ks.mapIdx fun j t => (0 + j, t)) (i := i.1 + 1) (by rw [hf]; exact h8')
         refine Y61 ?_;exact Tri.ret ⟨.inr rfl, ret1 rfl resV_tmp (iv_imp (by simp only [hrest, orE, hz1, aerrK_eq, hf2, hf, if_neg h8', if_true]))⟩
        ·skip
         have h8' : aerr members depth (bound + moreM k i.1) ks[i.1] = 0 := by simpa using h8
         have hnext : firstE (fun x : Nat × Tm => aerr members depth (bound + moreM k x.1) x.2) ((ks.mapIdx fun j t => (0 + j, t)).take (i.1 + 1)) = 0 := by rw [firstE_take _ hil, if_pos i.2, hel, h8']
         refine Tri.skip ?_;refine Y28 ?_
         refine ⟨⟨i.1 + 1, hnext⟩, by show ks.length - (i.1 + 1) < ks.length - i.1; omega, le_of ?_ ?_⟩
         ·exact zE
         ·exact zH
       ·skip
        have hz2 : aerrK members depth bound k 0 ks = 0 := by
         have := i.2
         rw [aerrK_eq]
         rwa [List.take_of_length_le (by rw [tms_length] at h7; simp at h7; simpa using h7)] at this
        refine Tri.exit ?_;refine Y8 ?_;refine Tri.block (Tri.loopW (σ := {i : Nat // firstE (aerrCs members depth bound) (cs.take i) = 0}) (fun i => ⟨[(4, .ptr 4 [] 32), (1, iv .i64 depth), (2, iv .i64 members), (3, iv .i64 bound), (15, iv .i64 i.1)], [(4, .var 32 (.pu (tmc 0 (.mk k n r ks cs))))]⟩) (fun i => cs.length - i.1) ⟨0, rfl⟩ ?_ ?_ (fun i => ?_))
        ·exact zW
        ·exact zW
        refine Y60 ?_;refine Tri.cond rfl (fun h9 => ?_) (fun h9 => ?_)
        ·skip
         have hi : i.1 < cs.length := by rw [css_length] at h9; simpa using h9
         have hcz := csize_mem (List.getElem_mem hi)
         have hget := css_get (lo := 0) hi
         have hft := firstE_take (aerrCs members depth bound) hi
         rw [if_pos i.2] at hft
         have hfp := fun h => firstE_pre (aerrCs members depth bound) (l := cs) (i := i.1 + 1) h
         generalize cs[i.1] = ci at hcz hget hft
         obtain ⟨q, b⟩ := ci
         simp only [csize] at hcz
         have hbb := binds_bound q
         have htp := tsize_pos b
         simp only [aerrCs] at hft
         refine Tri.skip ?_;refine tQ ?_;refine Tri.block ?_;refine Y45 ?_;refine s_val (v_index SS (h0 := by omega) (hp := hget)) ?_;refine Y4 ?_;refine Y42 ?_;refine yM ?_;refine Y46 ?_;refine s_val (v_index SS (h0 := by omega) (hp := hget)) ?_;refine Y4 ?_;refine s_val (v_callD (fun _ => rbound_c _ q (Nat.le_refl _) (by omega))) ?_;refine s_val (v_int SS) ?_;rw [wrap64 (n := bound + bindsM q) (by omega) (by omega)];refine s_val (v_callD (fun _ => ih b (by omega) (by omega) (bound + bindsM q) (by omega) (by omega))) ?_;refine yA ?_;refine e_draw ?_;refine Y34 ?_;refine Tri.cond rfl (fun h10 => ?_) (fun h10 => ?_)
         ·skip
          have h10' : aerr members depth (bound + bindsM q) b ≠ 0 := by simpa using h10
          have hf2 := hfp (by rw [hft]; exact h10')
          refine Y61 ?_;exact Tri.ret ⟨.inr rfl, ret1 rfl resV_tmp (iv_imp (by simp only [hrest, orE, hz1, hz2, aerrC_eq, hf2, hft, if_true]))⟩
         ·skip
          have h10' : aerr members depth (bound + bindsM q) b = 0 := by simpa using h10
          have hnext : firstE (aerrCs members depth bound) (cs.take (i.1 + 1)) = 0 := by rw [hft, h10']
          refine Tri.skip ?_;refine Y28 ?_
          refine ⟨⟨i.1 + 1, hnext⟩, by show cs.length - (i.1 + 1) < cs.length - i.1; omega, le_of ?_ ?_⟩
          ·exact zE
          ·exact zH
        ·skip
         have hz3 : firstE (aerrCs members depth bound) cs = 0 := by have := i.2; rwa [List.take_of_length_le (by rw [css_length] at h9; simp at h9; omega)] at this
         refine Tri.exit ?_;refine Y8 ?_;exact Tri.ret ⟨.inr rfl, ret1 rfl resV_tmp (iv_imp (by simp only [hrest, orE, hz1, hz2, aerrC_eq, hz3, if_true]))⟩
theorem rcheck_c (t : Tm) (hN : tsize t < 2^40) (depth members : Int) : FCall Tryz.prog G 87 [.pu (tmc 0 t), iv .i64 depth, iv .i64 members] (iv .i64 (checkM t depth members)) := by
 refine FCall.of_tri tbl 13 Tryz.func87 rfl rfl rfl fun w0 M ρ0 D0 => ?_
 refine yR ?_;refine s_box SS 3 ?_;refine yB ?_;refine e_seqN [3] ?_;refine Y6 ?_;refine s_val (v_callD (fun _ => rlong_c t hN)) ?_;refine Y0 ?_;refine Tri.cond rfl (fun h0 => ?_) (fun h0 => ?_)
 ·skip
  refine Y8 ?_;exact Tri.ret ⟨.inr rfl, ret1 rfl resV_tmp (iv_imp (by simp [checkM, h0]))⟩
 ·skip
  refine Tri.skip ?_;refine Y6 ?_;refine Y42 ?_;refine s_val (v_callD (fun _ => rnode_c members depth _ t (Nat.le_refl _) hN 0 (by omega) (by omega))) ?_;refine Y2 ?_;exact Tri.ret ⟨.inr rfl, ret1 rfl resV_tmp (iv_imp (by simp [checkM, h0]))⟩
end Go.Proofs.YtkcgkignhpepkaaGreatDoor

/- The reference: the error of a world and a term. -/
namespace Go.Proofs.YtkcgkignhpepkaaGreatDoor
open Go Hs
variable {G : List (Nat × TypeId × Pu)}
def fndM (s : List Int) (ts : List KT) : Int := match ts.findIdx? (fun x => x.1 == s) with
 | some i => (i : Int)
 | none => -1
theorem fnd_mem {s : List Int} {ts : List KT} : 0 ≤ fndM s ts ↔ s ∈ ts.map (·.1) := by
 unfold fndM
 split
 ·rename_i i h
  obtain ⟨h1, h2, _⟩ := List.findIdx?_eq_some_iff_getElem.1 h
  simp only [beq_iff_eq] at h2
  exact ⟨fun _ => List.mem_map.2 ⟨_, List.getElem_mem h1, h2⟩, fun _ => by omega⟩
 ·rename_i h
  rw [List.findIdx?_eq_none_iff] at h
  refine ⟨fun h => by omega, fun hm => ?_⟩
  obtain ⟨x, hx, rfl⟩ := List.mem_map.1 hm
  have := h x hx
  simp at this
theorem rfind_c (ts : List KT) (s : List Int) (hl : ts.length < 2^40) : FCall Tryz.prog G 90 [.pu (.sl 0 116 (ts.map ktP)), .pu (refP s)] (iv .i64 (fndM s ts)) := by
 refine FCall.of_tri tbl 20 Tryz.func90 rfl rfl rfl fun w0 M ρ0 D0 => ?_
 refine Tri.fact (i := 0) rfl (fun D w x h => (PR_sl h).elim fun _ h => h.elim fun _ h => kts_wf h) (fun hr => ?_);refine Tri.fact (i := 1) rfl (fun D w x h => ref_len h) (fun hs => ?_);refine yR ?_;refine s_box SS 3 ?_;refine yB ?_;refine e_seqN [3] ?_;refine Y8 ?_;refine Tri.block (Tri.loopW (σ := {i : Nat // ∀ j (hj : j < ts.length), j < i → (ts[j].1 == s) = false}) (fun i => ⟨[(3, .ptr 3 [] 28), (0, .pu (.sl 0 116 (ts.map ktP))), (5, iv .i64 i.1)], [(3, .var 28 (.pu (refP s)))]⟩) (fun i => ts.length - i.1) ⟨0, by intro j hj h; omega⟩ ?_ ?_ (fun i => ?_))
 ·exact zW
 ·exact zW
 refine Y20 ?_;refine Y31 ?_;refine Tri.cond rfl (fun h0 => ?_) (fun h0 => ?_)
 ·skip
  have hi : i.1 < ts.length := by simpa using h0
  refine Tri.skip ?_;refine tQ ?_;refine Tri.block ?_;refine Y20 ?_;refine s_val (v_index SS (h0 := by omega) (hp := kt_get hi)) ?_;refine Y4 ?_;refine yL ?_;refine s_val (v_bin SS (h := bin_eqS ((hr _ (List.getElem_mem hi)).trans hs.symm))) ?_;refine Y38 ?_;refine Tri.cond rfl (fun h1 => ?_) (fun h1 => ?_)
  ·skip
   have hf : fndM s ts = i.1 := by
    unfold fndM
    rw [List.findIdx?_eq_some_iff_getElem.2 ⟨hi, by simpa using h1, fun j hj => by simp only [i.2 j (by omega) hj]; simp⟩]
   refine Y61 ?_;exact Tri.ret ⟨.inr rfl, ret1 rfl resV_tmp (iv_imp hf.symm)⟩
  ·skip
   have hnext : ∀ j (hj : j < ts.length), j < i.1 + 1 → (ts[j].1 == s) = false := fun j hj h => by
    rcases Nat.lt_or_ge j i.1 with h' | h'
    ·exact i.2 j hj h'
    ·obtain rfl : j = i.1 := by omega
     exact h1
   refine Tri.skip ?_;refine Y28 ?_
   refine ⟨⟨i.1 + 1, hnext⟩, by show ts.length - (i.1 + 1) < ts.length - i.1; omega, le_of ?_ ?_⟩
   ·exact zE
   ·exact zH
 ·skip
  have hf : fndM s ts = -1 := by
   unfold fndM
   rw [List.findIdx?_eq_none_iff.2 fun x hx => ?_]
   obtain ⟨j, hj, rfl⟩ := List.getElem_of_mem hx
   exact i.2 j hj (by simp at h0; omega)
  refine Tri.exit ?_;refine Y8 ?_;exact Tri.ret ⟨.inr rfl, ret1 rfl resV_tmp (iv_imp hf.symm)⟩
def termsM (ts : List KT) (most : Int) : Int := if decide ((ts.length : Int) > most) then 2 else orE (firstE (fun x => checkM x.2 0 0) ts) (if dupM ts then 5 else 0)
theorem rterms_c (ts : List KT) (most : Int) (hl : ts.length < 2^40) (hts : ∀ x ∈ ts, tsize x.2 < 2^40) : FCall Tryz.prog G 86 [.pu (.sl 0 116 (ts.map ktP)), iv .i64 most] (iv .i64 (termsM ts most)) := by
 refine FCall.of_tri tbl 43 Tryz.func86 rfl rfl rfl fun w0 M ρ0 D0 => ?_
 refine Y48 ?_;refine yC ?_;refine yM ?_;refine yI ?_;refine Y0 ?_;refine Tri.cond rfl (fun h0 => ?_) (fun h0 => ?_)
 ·skip
  refine Y8 ?_;exact Tri.ret ⟨.inr rfl, ret1 rfl resV_tmp (iv_imp (by simp at h0; simp [termsM, h0]))⟩
 ·skip
  have hlen : ¬ ((ts.length : Int) > most) := by simpa using h0
  refine Tri.skip ?_;refine Y8 ?_;refine Tri.block (Tri.loopW (σ := {i : Nat // firstE (fun x : KT => checkM x.2 0 0) (ts.take i) = 0}) (fun i => ⟨[(0, .pu (.sl 0 116 (ts.map ktP))), (5, iv .i64 i.1)], []⟩) (fun i => ts.length - i.1) ⟨0, rfl⟩ ?_ ?_ (fun i => ?_))
  ·exact zW
  ·exact zW
  refine Y20 ?_;refine Y31 ?_;refine Tri.cond rfl (fun h1 => ?_) (fun h1 => ?_)
  ·skip
   have hi : i.1 < ts.length := by simpa using h1
   refine Tri.skip ?_;refine tQ ?_;refine Tri.block ?_;refine Y20 ?_;refine s_val (v_index SS (h0 := by omega) (hp := kt_get hi)) ?_;refine Y4 ?_;refine s_val (v_callD (fun _ => rcheck_c ts[i.1].2 (hts _ (List.getElem_mem hi)) 0 0)) ?_;refine Y47 ?_;refine Tri.cond rfl (fun h2 => ?_) (fun h2 => ?_)
   ·skip
    have h2' : checkM ts[i.1].2 0 0 ≠ 0 := by simpa using h2
    have hf : firstE (fun x : KT => checkM x.2 0 0) (ts.take (i.1 + 1)) = checkM ts[i.1].2 0 0 := by rw [firstE_take _ hi, if_pos i.2]
    have hf2 := firstE_pre (fun x : KT => checkM x.2 0 0) (l := ts) (i := i.1 + 1) (by rw [hf]; exact h2')
    refine Y61 ?_;exact Tri.ret ⟨.inr rfl, ret1 rfl resV_tmp (iv_imp (by simp [termsM, hlen, orE, hf2, hf, h2']))⟩
   ·skip
    have h2' : checkM ts[i.1].2 0 0 = 0 := by simpa using h2
    have hnext : firstE (fun x : KT => checkM x.2 0 0) (ts.take (i.1 + 1)) = 0 := by rw [firstE_take _ hi, if_pos i.2, h2']
    refine Tri.skip ?_;refine Y28 ?_
    refine ⟨⟨i.1 + 1, hnext⟩, by show ts.length - (i.1 + 1) < ts.length - i.1; omega, le_of ?_ ?_⟩
    ·exact zE
    ·exact zH
  ·skip
   have hz1 : firstE (fun x : KT => checkM x.2 0 0) ts = 0 := by have := i.2; rwa [List.take_of_length_le (by simp at h1; omega)] at this
   refine Tri.exit ?_;refine Y8 ?_;refine Tri.block (Tri.loopW (σ := {i : Nat // ((ts.take i).map (·.1)).Nodup}) (fun i => ⟨[(0, .pu (.sl 0 116 (ts.map ktP))), (7, iv .i64 i.1)], []⟩) (fun i => ts.length - i.1) ⟨0, by simp⟩ ?_ ?_ (fun i => ?_))
   ·exact zW
   ·exact zW
   refine Y20 ?_;refine Y31 ?_;refine Tri.cond rfl (fun h3 => ?_) (fun h3 => ?_)
   ·skip
    have hi : i.1 < ts.length := by simpa using h3
    have hdup := nodup_take (l := ts.map (·.1)) (i := i.1) (by simpa using hi)
    rw [List.map_take.symm, List.map_take.symm, List.getElem_map] at hdup
    have hfm := fnd_mem (s := ts[i.1].1) (ts := ts.take i.1)
    have hfc := rfind_c (G := G) (ts.take i.1) ts[i.1].1 (by rw [List.length_take]; omega)
    rw [List.map_take] at hfc
    refine Tri.skip ?_;refine tQ ?_;refine Tri.block ?_;refine Y20 ?_;refine s_val (v_sliceTo SS (ps := ts.map ktP) (r := i.1) (by rw [List.length_map]; omega)) ?_;refine Y42 ?_;refine s_val (v_index SS (h0 := by omega) (hp := kt_get hi)) ?_;refine Y4 ?_;refine s_val (v_callD (fun _ => hfc)) ?_;refine yI ?_;refine Y38 ?_;refine Tri.cond rfl (fun h4 => ?_) (fun h4 => ?_)
    ·skip
     have hm := hfm.1 (by simpa using h4)
     have hnd : ¬ (ts.map (·.1)).Nodup := fun hn => by
      have h2 : ((ts.take (i.1 + 1)).map (·.1)).Nodup := by rw [List.map_take]; exact hn.sublist (List.take_sublist _ _)
      exact (hdup.1 h2).2 hm
     refine Y8 ?_;exact Tri.ret ⟨.inr rfl, ret1 rfl resV_tmp (iv_imp (by simp [termsM, hlen, orE, hz1, dupM, hnd]))⟩
    ·skip
     have hm : ts[i.1].1 ∉ (ts.take i.1).map (·.1) := fun hm => by have := hfm.2 hm; simp at h4; omega
     have hnext : ((ts.take (i.1 + 1)).map (·.1)).Nodup := hdup.2 ⟨i.2, hm⟩
     refine Tri.skip ?_;refine Y28 ?_
     refine ⟨⟨i.1 + 1, hnext⟩, by show ts.length - (i.1 + 1) < ts.length - i.1; omega, le_of ?_ ?_⟩
     ·exact zE
     ·exact zH
   ·skip
    have hnd : (ts.map (·.1)).Nodup := by have := i.2; rwa [List.take_of_length_le (by simp at h3; omega)] at this
    refine Tri.exit ?_;refine Y8 ?_;exact Tri.ret ⟨.inr rfl, ret1 rfl resV_tmp (iv_imp (by simp [termsM, hlen, orE, hz1, dupM, hnd]))⟩
theorem terms_check (ts : List KT) (t : Tm) : orE (termsM ts 40) (checkM t 0 0) = stepCheckM ts t := by
 unfold termsM stepCheckM orE
 split
 ·simp
 ·split
  ·split <;> simp
  ·rename_i h; simp [h]
theorem r16check_c (a b : Pu) (ts : List KT) (t : Tm) (hl : ts.length < 2^40) (hts : ∀ x ∈ ts, tsize x.2 < 2^40) (hN : tsize t < 2^40) : FCall Tryz.prog G 16 [.pu (wdP a b ts), .pu (tmc 0 t)] (iv .i64 (stepCheckM ts t)) := by
 refine FCall.of_tri tbl 14 Tryz.func16 rfl rfl rfl fun w0 M ρ0 D0 => ?_
 refine yR ?_;refine s_box SS 2 ?_;refine s_box SS 3 ?_;refine yB ?_;refine e_seqN [2, 3] ?_;refine Y14 ?_;refine s_val (v_callD (fun _ => rterms_c ts 40 hl hts)) ?_;refine Y47 ?_;refine Tri.cond rfl (fun h0 => ?_) (fun h0 => ?_)
 ·skip
  refine Y61 ?_;exact Tri.ret ⟨.inr rfl, ret1 rfl resV_tmp (iv_imp (by rw [← terms_check]; have h0' : termsM ts 40 ≠ 0 := (by simpa using h0); simp [orE, h0']))⟩
 ·skip
  refine Tri.skip ?_;refine Y6 ?_;refine s_val (v_callD (fun _ => rcheck_c t hN 0 0)) ?_;refine Y2 ?_;exact Tri.ret ⟨.inr rfl, ret1 rfl resV_tmp (iv_imp (by rw [← terms_check]; have h0' : termsM ts 40 = 0 := (by simpa using h0); simp [orE, h0']))⟩
end Go.Proofs.YtkcgkignhpepkaaGreatDoor

/- The reference: what fits, and the place of work. -/
namespace Go.Proofs.YtkcgkignhpepkaaGreatDoor
open Go Hs
variable {G : List (Nat × TypeId × Pu)}
def fitI (v : Tm) : List Cs → Nat → Option (Nat × List Tm)
 | [], _ => none
 | .mk q _ :: cs, i => if (fitsM q v).2 then some (i, (fitsM q v).1) else fitI v cs (i + 1)
abbrev fitgV (x : Option (Nat × List Tm)) : PV := .tup [iv .i64 (match x with | some (i, _) => (i : Int) | none => -1), .pu (.sl 0 32 (tmsc 0 (match x with | some (_, l) => l | none => [])))]
theorem fitI_at (v : Tm) : ∀ {cs : List Cs} {i o : Nat} (hi : i < cs.length), (∀ j (hj : j < cs.length), j < i → (fitsM (csP cs[j]) v).2 = false) → (fitsM (csP cs[i]) v).2 = true → fitI v cs o = some (o + i, (fitsM (csP cs[i]) v).1)
 | .mk q b :: cs, 0, o, _, _, h => by simp only [List.getElem_cons_zero, csP] at h ⊢; simp [fitI, h]
 | .mk q b :: cs, i + 1, o, hi, hn, h => by
  have h0 := hn 0 (by simp) (by omega)
  simp only [List.getElem_cons_zero, csP] at h0
  simp only [List.getElem_cons_succ] at h ⊢
  rw [show o + (i + 1) = o + 1 + i by omega]
  simp only [fitI, h0, Bool.false_eq_true, if_false]
  exact fitI_at v (by simpa using hi) (fun j hj hlt => by have := hn (j + 1) (by simpa using hj) (by omega); rwa [List.getElem_cons_succ] at this) h
theorem fitI_none (v : Tm) : ∀ {cs : List Cs} {o : Nat}, (∀ j (hj : j < cs.length), (fitsM (csP cs[j]) v).2 = false) → fitI v cs o = none
 | [], _, _ => rfl
 | .mk q b :: cs, o, hn => by
  have h0 := hn 0 (by simp)
  simp only [List.getElem_cons_zero, csP] at h0
  simp only [fitI, h0, Bool.false_eq_true, if_false]
  exact fitI_none v fun j hj => by have := hn (j + 1) (by simpa using hj); rwa [List.getElem_cons_succ] at this
theorem rfitting_c (k n : Int) (r : List Int) (v : Tm) (ks : List Tm) (cs : List Cs) (hN : tsize (.mk k n r (v :: ks) cs) < 2^30) : FCall Tryz.prog G 91 [.pu (tmc 0 (.mk k n r (v :: ks) cs))] (fitgV (fitI v cs 0)) := by
 have hsz : 1 + tsizeL (v :: ks) + csizeL cs < 2^30 := by simpa only [tsize] using hN
 have hlenc := length_csizeL cs
 have hv : tsize v ≤ tsizeL (v :: ks) := by simp only [tsizeL]; omega
 refine FCall.of_tri tbl 31 Tryz.func91 rfl rfl rfl fun w0 M ρ0 D0 => ?_
 refine yR ?_;refine s_box SS 1 ?_;refine yB ?_;refine yB ?_;refine e_seqN [1] ?_;refine Y8 ?_;refine Tri.block (Tri.loopW (σ := {i : Nat // ∀ j (hj : j < cs.length), j < i → (fitsM (csP cs[j]) v).2 = false}) (fun i => ⟨[(1, .ptr 1 [] 32), (4, iv .i64 i.1)], [(1, .var 32 (.pu (tmc 0 (.mk k n r (v :: ks) cs))))]⟩) (fun i => cs.length - i.1) ⟨0, by intro j hj h; omega⟩ ?_ ?_ (fun i => ?_))
 ·exact zW
 ·exact zW
 refine Y60 ?_;refine Tri.cond rfl (fun h0 => ?_) (fun h0 => ?_)
 ·skip
  have hi : i.1 < cs.length := by rw [css_length] at h0; simpa using h0
  have hget := css_get (lo := 0) hi
  rw [css_pat] at hget
  have hcz := csize_mem (List.getElem_mem hi)
  have hpz : psize (csP cs[i.1]) ≤ csize cs[i.1] := by generalize cs[i.1] = c; cases c; simp only [csP, csize]; omega
  refine Tri.skip ?_;refine tQ ?_;refine Tri.block ?_;refine Y45 ?_;refine s_val (v_index SS (h0 := by omega) (hp := hget)) ?_;refine Y4 ?_;refine Y7 ?_;refine s_val (v_index SS (h0 := by omega) (hp := (rfl : (tmsc 0 (v :: ks))[0]? = some (tmc 0 v)))) ?_;refine yL ?_;refine s_val (v_callD (fun _ => rfits_c _ (csP cs[i.1]) (Nat.le_refl _) v (by omega))) ?_;refine Y65 ?_;refine yA ?_;refine e_draw ?_;refine Y1 ?_;refine Y0 ?_;refine Tri.cond rfl (fun h1 => ?_) (fun h1 => ?_)
  ·skip
   have hf : fitI v cs 0 = some (0 + i.1, (fitsM (csP cs[i.1]) v).1) := fitI_at v hi i.2 h1
   rw [Nat.zero_add] at hf
   refine Y20 ?_;refine Y72 ?_;rw [hf];exact Tri.ret ⟨.inr rfl, ret2 rfl resV_tmp (VImp.refl _) resV_tmp (VImp.refl _)⟩
  ·skip
   have hnext : ∀ j (hj : j < cs.length), j < i.1 + 1 → (fitsM (csP cs[j]) v).2 = false := fun j hj h => by
    rcases Nat.lt_or_ge j i.1 with h' | h'
    ·exact i.2 j hj h'
    ·obtain rfl : j = i.1 := by omega
     exact h1
   refine Tri.skip ?_;refine Y28 ?_
   refine ⟨⟨i.1 + 1, hnext⟩, by show cs.length - (i.1 + 1) < cs.length - i.1; omega, le_of ?_ ?_⟩
   ·exact zE
   ·exact zH
 ·skip
  have hf : fitI v cs 0 = none := fitI_none v fun j hj => i.2 j hj (by rw [css_length] at h0; simp at h0; omega)
  refine Tri.exit ?_;refine Y3 ?_;refine Y26 ?_;rw [hf];exact Tri.ret ⟨.inr rfl, ret2 rfl resV_tmp (VImp.refl _) resV_tmp (ToPu.imp (by repeat constructor))⟩
def workI (k : Int) (ks : List Tm) : Option Nat := (ks.take (manyM k ks.length)).findIdx? fun x => !valM x
theorem placeL_work (many : Nat) : ∀ (ks : List Tm) (i : Nat), placeL many i ks = match (ks.take (many - i)).findIdx? (fun x => !valM x) with
  | some j => (i + j) :: (match ks[j]? with | some x => placeM x | none => [])
  | none => []
 | [], i => by simp [placeL]
 | t :: ts, i => by
  simp only [placeL]
  split
  ·rename_i h
   obtain ⟨d, hd⟩ : ∃ d, many - i = d + 1 := ⟨many - i - 1, by omega⟩
   have ih := placeL_work many ts (i + 1)
   rw [show many - (i + 1) = d by omega] at ih
   rw [hd, List.take_succ_cons, List.findIdx?_cons]
   split
   ·rename_i hv
    simp only [hv, Bool.not_true, Bool.false_eq_true, if_false]
    rw [ih]
    cases (ts.take d).findIdx? (fun x => !valM x) with
    | none => rfl
    | some j => simp only [Option.map_some, List.getElem?_cons_succ]; congr 1; omega
   ·rename_i hv
    simp [hv]
  ·rename_i h
   rw [show many - i = 0 by omega]; rfl
theorem place_work (k n : Int) (r : List Int) (ks : List Tm) (cs : List Cs) : placeM (.mk k n r ks cs) = match workI k ks with
  | some j => j :: (match ks[j]? with | some x => placeM x | none => [])
  | none => [] := by
 simp only [placeM]
 rw [placeL_work]
 simp only [Nat.sub_zero, Nat.zero_add]
 rfl
theorem workI_some {k : Int} {ks : List Tm} {j : Nat} (h : workI k ks = some j) : j < manyM k ks.length ∧ ∃ x, ks[j]? = some x ∧ valM x = false := by
 unfold workI at h
 obtain ⟨h1, h2, _⟩ := List.findIdx?_eq_some_iff_getElem.1 h
 rw [List.length_take] at h1
 refine ⟨by omega, ks[j]'(by omega), List.getElem?_eq_getElem _, ?_⟩
 simpa using h2
theorem rworked_c (k n : Int) (r : List Int) (ks : List Tm) (cs : List Cs) (hm : manyM k ks.length ≤ ks.length) (hN : tsize (.mk k n r ks cs) < 2^40) : FCall Tryz.prog G 149 [.pu (tmc 0 (.mk k n r ks cs))] (iv .i64 (match workI k ks with | some j => (j : Int) | none => -1)) := by
 have hsz : 1 + tsizeL ks + csizeL cs < 2^40 := by simpa only [tsize] using hN
 have hlen := length_tsizeL ks
 refine FCall.of_tri tbl 32 Tryz.func149 rfl rfl rfl fun w0 M ρ0 D0 => ?_
 refine yR ?_;refine s_box SS 1 ?_;refine yB ?_;refine e_seqN [1] ?_;refine Y19 ?_;refine Y13 ?_;refine Y0 ?_;refine Tri.cutT ⟨[(1, .ptr 1 [] 32), (3, iv .i64 (manyM k ks.length : Nat))], [(1, .var 32 (.pu (tmc 0 (.mk k n r ks cs))))]⟩ ?_ ?_
 ·skip
  refine tQ ?_;refine Tri.block ?_;refine Y15 ?_;refine Tri.cutT ⟨[(1, .ptr 1 [] 32), (6, iv .i64 k), (3, iv .i64 0), (7, bv (k == 4 || k == 8 || k == 10))], [(1, .var 32 (.pu (tmc 0 (.mk k n r ks cs))))]⟩ ?_ ?_
  ·skip
   refine tQ ?_;refine Tri.cond rfl (fun h0 => ?_) (fun h0 => ?_)
   ·skip
    refine Tri.skip ?_;refine le_of ?_ ?_
    ·repeat (first | exact SubE.nil | refine SubE.cons rfl (by first | rfl | (rw [wrap64 (by omega) (by omega)]; rfl) | (simp only [*, Bool.true_or, Bool.or_true, Bool.false_or])) ?_)
    ·repeat (first | exact SubH.nil | refine SubH.cons rfl (by first | rfl | (rw [wrap64 (by omega) (by omega)]; rfl) | (simp only [*, Bool.true_or, Bool.or_true, Bool.false_or])) ?_)
   ·skip
    refine Y15 ?_;refine Tri.cond rfl (fun h1 => ?_) (fun h1 => ?_)
    ·skip
     refine Tri.skip ?_;refine le_of ?_ ?_
     ·repeat (first | exact SubE.nil | refine SubE.cons rfl (by first | rfl | (rw [wrap64 (by omega) (by omega)]; rfl) | (simp only [*, Bool.true_or, Bool.or_true, Bool.false_or])) ?_)
     ·repeat (first | exact SubH.nil | refine SubH.cons rfl (by first | rfl | (rw [wrap64 (by omega) (by omega)]; rfl) | (simp only [*, Bool.true_or, Bool.or_true, Bool.false_or])) ?_)
    ·skip
     refine Y9 ?_;refine Y10 ?_;refine le_of ?_ ?_
     ·repeat (first | exact SubE.nil | refine SubE.cons rfl (by first | rfl | (rw [wrap64 (by omega) (by omega)]; rfl) | (simp only [*, Bool.true_or, Bool.or_true, Bool.false_or])) ?_)
     ·repeat (first | exact SubH.nil | refine SubH.cons rfl (by first | rfl | (rw [wrap64 (by omega) (by omega)]; rfl) | (simp only [*, Bool.true_or, Bool.or_true, Bool.false_or])) ?_)
  ·skip
   refine tQ ?_;refine Tri.cond rfl (fun h2 => ?_) (fun h2 => ?_)
   ·skip
    refine Y14 ?_;refine yC ?_;refine Y10 ?_;refine le_of ?_ ?_
    ·repeat (first | exact SubE.nil | refine SubE.cons rfl (by first | rfl | (rw [wrap64 (by omega) (by omega)]; rfl) | (first | (rw [tms_length]; simp only [Bool.or_eq_true, beq_iff_eq] at h2; simp only [manyM]; rw [if_pos (by omega)]) | (simp only [Bool.or_eq_false_iff, Bool.or_eq_true, beq_iff_eq, beq_eq_false_iff_ne, ne_eq] at h2 h6; simp only [manyM]; rw [if_neg (by omega), if_pos (by omega)]; rfl) | (simp only [Bool.or_eq_false_iff, beq_eq_false_iff_ne, ne_eq] at h2 h6; simp only [manyM]; rw [if_neg (by omega), if_neg (by omega)]; rfl))) ?_)
    ·repeat (first | exact SubH.nil | refine SubH.cons rfl (by first | rfl | (rw [wrap64 (by omega) (by omega)]; rfl) | (first | (rw [tms_length]; simp only [Bool.or_eq_true, beq_iff_eq] at h2; simp only [manyM]; rw [if_pos (by omega)]) | (simp only [Bool.or_eq_false_iff, Bool.or_eq_true, beq_iff_eq, beq_eq_false_iff_ne, ne_eq] at h2 h6; simp only [manyM]; rw [if_neg (by omega), if_pos (by omega)]; rfl) | (simp only [Bool.or_eq_false_iff, beq_eq_false_iff_ne, ne_eq] at h2 h6; simp only [manyM]; rw [if_neg (by omega), if_neg (by omega)]; rfl))) ?_)
   ·skip
    refine Y15 ?_;refine Tri.cutT ⟨[(1, .ptr 1 [] 32), (3, iv .i64 0), (14, bv (k == 5 || k == 9 || k == 11 || k == 12))], [(1, .var 32 (.pu (tmc 0 (.mk k n r ks cs))))]⟩ ?_ ?_
    ·skip
     refine tQ ?_;refine Tri.cond rfl (fun h3 => ?_) (fun h3 => ?_)
     ·skip
      refine Tri.skip ?_;refine le_of ?_ ?_
      ·repeat (first | exact SubE.nil | refine SubE.cons rfl (by first | rfl | (rw [wrap64 (by omega) (by omega)]; rfl) | (simp only [*, Bool.true_or, Bool.or_true, Bool.false_or])) ?_)
      ·repeat (first | exact SubH.nil | refine SubH.cons rfl (by first | rfl | (rw [wrap64 (by omega) (by omega)]; rfl) | (simp only [*, Bool.true_or, Bool.or_true, Bool.false_or])) ?_)
     ·skip
      refine Y15 ?_;refine Tri.cond rfl (fun h4 => ?_) (fun h4 => ?_)
      ·skip
       refine Tri.skip ?_;refine le_of ?_ ?_
       ·repeat (first | exact SubE.nil | refine SubE.cons rfl (by first | rfl | (rw [wrap64 (by omega) (by omega)]; rfl) | (simp only [*, Bool.true_or, Bool.or_true, Bool.false_or])) ?_)
       ·repeat (first | exact SubH.nil | refine SubH.cons rfl (by first | rfl | (rw [wrap64 (by omega) (by omega)]; rfl) | (simp only [*, Bool.true_or, Bool.or_true, Bool.false_or])) ?_)
      ·skip
       refine Y15 ?_;refine Tri.cond rfl (fun h5 => ?_) (fun h5 => ?_)
       ·skip
        refine Tri.skip ?_;refine le_of ?_ ?_
        ·repeat (first | exact SubE.nil | refine SubE.cons rfl (by first | rfl | (rw [wrap64 (by omega) (by omega)]; rfl) | (simp only [*, Bool.true_or, Bool.or_true, Bool.false_or])) ?_)
        ·repeat (first | exact SubH.nil | refine SubH.cons rfl (by first | rfl | (rw [wrap64 (by omega) (by omega)]; rfl) | (simp only [*, Bool.true_or, Bool.or_true, Bool.false_or])) ?_)
       ·skip
        refine Y9 ?_;refine Y10 ?_;refine le_of ?_ ?_
        ·repeat (first | exact SubE.nil | refine SubE.cons rfl (by first | rfl | (rw [wrap64 (by omega) (by omega)]; rfl) | (simp only [*, Bool.true_or, Bool.or_true, Bool.false_or])) ?_)
        ·repeat (first | exact SubH.nil | refine SubH.cons rfl (by first | rfl | (rw [wrap64 (by omega) (by omega)]; rfl) | (simp only [*, Bool.true_or, Bool.or_true, Bool.false_or])) ?_)
    ·skip
     refine tQ ?_;refine Tri.cond rfl (fun h6 => ?_) (fun h6 => ?_)
     ·skip
      refine Y19 ?_;refine le_of ?_ ?_
      ·repeat (first | exact SubE.nil | refine SubE.cons rfl (by first | rfl | (rw [wrap64 (by omega) (by omega)]; rfl) | (first | (rw [tms_length]; simp only [Bool.or_eq_true, beq_iff_eq] at h2; simp only [manyM]; rw [if_pos (by omega)]) | (simp only [Bool.or_eq_false_iff, Bool.or_eq_true, beq_iff_eq, beq_eq_false_iff_ne, ne_eq] at h2 h6; simp only [manyM]; rw [if_neg (by omega), if_pos (by omega)]; rfl) | (simp only [Bool.or_eq_false_iff, beq_eq_false_iff_ne, ne_eq] at h2 h6; simp only [manyM]; rw [if_neg (by omega), if_neg (by omega)]; rfl))) ?_)
      ·repeat (first | exact SubH.nil | refine SubH.cons rfl (by first | rfl | (rw [wrap64 (by omega) (by omega)]; rfl) | (first | (rw [tms_length]; simp only [Bool.or_eq_true, beq_iff_eq] at h2; simp only [manyM]; rw [if_pos (by omega)]) | (simp only [Bool.or_eq_false_iff, Bool.or_eq_true, beq_iff_eq, beq_eq_false_iff_ne, ne_eq] at h2 h6; simp only [manyM]; rw [if_neg (by omega), if_pos (by omega)]; rfl) | (simp only [Bool.or_eq_false_iff, beq_eq_false_iff_ne, ne_eq] at h2 h6; simp only [manyM]; rw [if_neg (by omega), if_neg (by omega)]; rfl))) ?_)
     ·skip
      refine Tri.skip ?_;refine le_of ?_ ?_
      ·repeat (first | exact SubE.nil | refine SubE.cons rfl (by first | rfl | (rw [wrap64 (by omega) (by omega)]; rfl) | (first | (rw [tms_length]; simp only [Bool.or_eq_true, beq_iff_eq] at h2; simp only [manyM]; rw [if_pos (by omega)]) | (simp only [Bool.or_eq_false_iff, Bool.or_eq_true, beq_iff_eq, beq_eq_false_iff_ne, ne_eq] at h2 h6; simp only [manyM]; rw [if_neg (by omega), if_pos (by omega)]; rfl) | (simp only [Bool.or_eq_false_iff, beq_eq_false_iff_ne, ne_eq] at h2 h6; simp only [manyM]; rw [if_neg (by omega), if_neg (by omega)]; rfl))) ?_)
      ·repeat (first | exact SubH.nil | refine SubH.cons rfl (by first | rfl | (rw [wrap64 (by omega) (by omega)]; rfl) | (first | (rw [tms_length]; simp only [Bool.or_eq_true, beq_iff_eq] at h2; simp only [manyM]; rw [if_pos (by omega)]) | (simp only [Bool.or_eq_false_iff, Bool.or_eq_true, beq_iff_eq, beq_eq_false_iff_ne, ne_eq] at h2 h6; simp only [manyM]; rw [if_neg (by omega), if_pos (by omega)]; rfl) | (simp only [Bool.or_eq_false_iff, beq_eq_false_iff_ne, ne_eq] at h2 h6; simp only [manyM]; rw [if_neg (by omega), if_neg (by omega)]; rfl))) ?_)
 ·skip
  refine Y8 ?_;refine Tri.block (Tri.loopW (σ := {i : Nat // ∀ j (hj : j < ks.length), j < i → valM ks[j] = true}) (fun i => ⟨[(1, .ptr 1 [] 32), (3, iv .i64 (manyM k ks.length : Nat)), (4, iv .i64 i.1)], [(1, .var 32 (.pu (tmc 0 (.mk k n r ks cs))))]⟩) (fun i => manyM k ks.length - i.1) ⟨0, by intro j hj h; omega⟩ ?_ ?_ (fun i => ?_))
  ·exact zW
  ·exact zW
  refine Y52 ?_;refine Y0 ?_;refine Tri.cond rfl (fun h7 => ?_) (fun h7 => ?_)
  ·skip
   have hi1 : i.1 < manyM k ks.length := by simpa using h7
   have hi : i.1 < ks.length := by omega
   have hts := tsize_mem (List.getElem_mem hi)
   refine Tri.skip ?_;refine tQ ?_;refine Tri.block ?_;refine Y45 ?_;refine s_val (v_index SS (h0 := by omega) (hp := tms_get hi)) ?_;refine yL ?_;refine s_val (v_callD (fun _ => rvalue_c _ ks[i.1] (Nat.le_refl _) (by omega))) ?_;refine Y74 ?_;refine Tri.cond rfl (fun h8 => ?_) (fun h8 => ?_)
   ·skip
    have hw : workI k ks = some i.1 := by
     unfold workI
     refine List.findIdx?_eq_some_iff_getElem.2 ⟨by rw [List.length_take]; omega, by simpa using h8, fun j hj => ?_⟩
     have := i.2 j (by omega) hj
     simp [this]
    refine Y61 ?_;exact Tri.ret ⟨.inr rfl, ret1 rfl resV_tmp (iv_imp (by rw [hw]))⟩
   ·skip
    have hnext : ∀ j (hj : j < ks.length), j < i.1 + 1 → valM ks[j] = true := fun j hj h => by
     rcases Nat.lt_or_ge j i.1 with h' | h'
     ·exact i.2 j hj h'
     ·obtain rfl : j = i.1 := by omega
      simpa using h8
    refine Tri.skip ?_;refine Y28 ?_
    refine ⟨⟨i.1 + 1, hnext⟩, by show manyM k ks.length - (i.1 + 1) < manyM k ks.length - i.1; omega, le_of ?_ ?_⟩
    ·exact zE
    ·exact zH
  ·skip
   have hw : workI k ks = none := by
    unfold workI
    rw [List.findIdx?_eq_none_iff]
    intro x hx
    obtain ⟨j, hj, rfl⟩ := List.getElem_of_mem hx
    rw [List.length_take] at hj
    rw [List.getElem_take, i.2 j (by omega) (by simp at h7; omega)]; rfl
   refine Tri.exit ?_;refine Y8 ?_;exact Tri.ret ⟨.inr rfl, ret1 rfl resV_tmp (iv_imp (by rw [hw]))⟩
end Go.Proofs.YtkcgkignhpepkaaGreatDoor

/- The reference: the place of work, and the next step. -/
namespace Go.Proofs.YtkcgkignhpepkaaGreatDoor
open Go Hs
variable {G : List (Nat × TypeId × Pu)}
theorem rplace_c (t0 : Tm) (hs0 : shT t0) (hN : tsize t0 < 2^30) : FCall Tryz.prog G 88 [.pu (tmc 0 t0)] (.pu (.sl 0 3 (pathL (placeM t0)))) := by
 have hpl := place_len t0
 refine FCall.of_tri tbl 19 Tryz.func88 rfl rfl rfl fun w0 M ρ0 D0 => ?_
 refine yR ?_;refine s_box SS 1 ?_;refine yB ?_;refine e_seqN [1] ?_;refine Y8 ?_;refine Tri.block (Tri.loopW (σ := {q : List Nat × Tm // q.1 ++ placeM q.2 = placeM t0 ∧ shT q.2 ∧ tsize q.2 ≤ tsize t0}) (fun i => ⟨[(1, .ptr 1 [] 32), (3, .ow 0 3 (pathL i.1.1))], [(1, .var 32 (.pu (tmc 0 i.1.2)))]⟩) (fun i => tsize i.1.2) ⟨([], t0), rfl, hs0, Nat.le_refl _⟩ ?_ ?_ (fun i => ?_))
 ·repeat (first | exact .nil | refine .cons rfl (by first | exact .refl | (focus ((repeat constructor); done)) | (exact .nilcOw)) ?_)
 ·repeat (first | exact .nil | refine .cons rfl (by first | exact .refl | (focus ((repeat constructor); done)) | (exact .nilcOw)) ?_)
 refine tQ ?_;refine Tri.block ?_
 obtain ⟨⟨acc, k, n, r, ks, cs⟩, hacc, hsh, hsz⟩ := i
 dsimp only at hacc hsh hsz ⊢
 have hsz' := hsz
 have hsh' := hsh
 simp only [shT] at hsh
 simp only [tsize] at hsz'
 have hlen := length_tsizeL ks
 have hal := congrArg List.length hacc
 simp only [List.length_append] at hal
 have hpw := place_work k n r ks cs
 have hmk := fun j => workI_some (k := k) (ks := ks) (j := j)
 have hwc := rworked_c (G := G) k n r ks cs (many_le hsh.1) (by simp only [tsize]; omega)
 rw [hpw] at hacc
 generalize workI k ks = wo at hacc hmk hwc
 refine Y6 ?_;refine s_val (v_callD (fun _ => hwc)) ?_;refine Y47 ?_;refine Tri.cond rfl (fun h0 => ?_) (fun h0 => ?_)
 ·skip
  have hwo : wo = none := by cases wo with
   | none => rfl
   | some j => simp at h0; omega
  have hfin : placeM t0 = acc := by rw [hwo] at hacc; simpa using hacc.symm
  refine Y61 ?_;exact Tri.ret ⟨.inr rfl, ret1 rfl resV_tmp ((by rw [hfin]; exact ToPu.imp (by repeat constructor)))⟩
 ·skip
  obtain ⟨j, hwo⟩ : ∃ j, wo = some j := by cases wo with
   | none => simp at h0
   | some j => exact ⟨j, rfl⟩
  subst hwo
  obtain ⟨hj1, x, hx, hxv⟩ := hmk j rfl
  simp only [hx] at hacc
  have hxm := List.mem_of_getElem? hx
  have hxs := tsize_mem hxm
  have hxg : (tmsc 0 ks)[j]? = some (tmc 0 x) := by simp [tms_eq, hx]
  have hnext : (acc ++ [j]) ++ placeM x = placeM t0 ∧ shT x ∧ tsize x ≤ tsize t0 := ⟨by rw [← hacc]; simp, shL_mem hsh.2.2.1 _ hxm, by omega⟩
  dsimp only
  refine Tri.skip ?_;refine Y20 ?_;refine yZ ?_;refine s_app1 3 ?_ ?_
  ·simp [path_len]; omega
  refine Y10 ?_;refine Y45 ?_;refine s_val (v_index SS (h0 := by omega) (hp := hxg)) ?_;refine yL ?_;refine Y16 ?_
  refine ⟨⟨(acc ++ [j], x), hnext⟩, by show tsize x < tsize (.mk k n r ks cs); simp only [tsize]; omega, le_of ?_ ?_⟩
  ·repeat (first | exact SubE.nil | refine SubE.cons rfl (by first | rfl | (rw [wrap64 (by omega) (by omega)]; rfl) | (rw [pathL_append]; rfl)) ?_)
  ·repeat (first | exact SubH.nil | refine SubH.cons rfl (by first | rfl | (rw [wrap64 (by omega) (by omega)]; rfl) | (rw [pathL_append]; rfl)) ?_)
theorem pathL_take (p : List Nat) (i : Nat) : (pathL p).take i = pathL (p.take i) := by simp [pathL]
theorem rat_c (t0 : Tm) (p : List Nat) (hok : okP t0 p) (hl : p.length < 2^40) : FCall Tryz.prog G 89 [.pu (tmc 0 t0), .pu (.sl 0 3 (pathL p))] (.pu (tmc 0 (walkM t0 p))) := by
 refine FCall.of_tri tbl 21 Tryz.func89 rfl rfl rfl fun w0 M ρ0 D0 => ?_
 refine yR ?_;refine s_box SS 2 ?_;refine s_alloc SS 4 ?_;refine e_seqN [2, 4] ?_;refine Y8 ?_;refine Tri.block (Tri.loopW (σ := Nat) (fun i => ⟨[(2, .ptr 2 [] 32), (4, .ptr 4 [] 32), (1, .pu (.sl 0 3 (pathL p))), (5, iv .i64 i)], [(2, .var 32 (.pu (tmc 0 (walkM t0 (p.take i))))), (4, .var 32 (.agg 32 [iv .i64 0, iv .i64 0, .pu (refP Z32), .nilc, .nilc]))]⟩) (fun i => p.length - i) 0 ?_ ?_ (fun i => ?_))
 ·exact zW
 ·exact zW
 refine Y20 ?_;refine Y31 ?_;refine Tri.cond rfl (fun h0 => ?_) (fun h0 => ?_)
 ·skip
  have hi : i < p.length := by rw [path_len] at h0; simpa using h0
  obtain ⟨x, hx1, hx2, hx3⟩ := walk_snoc hok hi
  have hpg := path_get hi
  rw [getElem!_pos p i hi] at hx1
  generalize p[i] = m at hx1 hpg
  generalize walkM t0 (p.take i) = t at hx1 ⊢
  obtain ⟨k, n, r, ks, cs⟩ := t
  simp only [Tm.kids] at hx1
  have hxg : (tmsc 0 ks)[m]? = some (tmc 0 x) := by simp [tms_eq, hx1]
  refine Tri.skip ?_;refine tQ ?_;refine Tri.block ?_;refine Y14 ?_;refine Y42 ?_;refine s_val (v_index SS (h0 := by omega) (hp := hpg)) ?_;refine yL ?_;refine s_val (v_index SS (h0 := by omega) (hp := hxg)) ?_;refine yL ?_;refine yS ?_;refine e_draw ?_;refine Y28 ?_
  refine ⟨i + 1, by omega, le_of ?_ ?_⟩
  ·repeat (first | exact SubE.nil | refine SubE.cons rfl (by first | rfl | (rw [wrap64 (by omega) (by omega)]; rfl) | (rw [hx2])) ?_)
  ·repeat (first | exact SubH.nil | refine SubH.cons rfl (by first | rfl | (rw [wrap64 (by omega) (by omega)]; rfl) | (rw [hx2])) ?_)
 ·skip
  have hi : p.length ≤ i := by rw [path_len] at h0; simpa using h0
  rw [List.take_of_length_le hi];refine Tri.exit ?_;refine Y64 ?_;exact Tri.ret ⟨.inr rfl, ret1 rfl resV_cell (ToPu.imp (by repeat constructor))⟩
theorem walk_take_ok : ∀ {t : Tm} {p : List Nat} (i : Nat), okP t p → okP t (p.take i)
 | t, [], i, _ => by simp [okP]
 | t, j :: p, 0, _ => trivial
 | t, j :: p, i + 1, ⟨x, hx, h⟩ => ⟨x, hx, walk_take_ok i h⟩
theorem rhandler_c (t0 : Tm) (p : List Nat) (hok : okP t0 p) (hl : p.length < 2^40) (hz : ∀ i (hi : i < p.length), (walkM t0 (p.take i)).kind = 12 → p[i] = 0) :
  FCall Tryz.prog G 92 [.pu (tmc 0 t0), .pu (.sl 0 3 (pathL p))] (iv .i64 (handM (wayM t0 p) (walkM t0 p).ref p.length)) := by
 have hwl := way_len hok
 have hac := rat_c (G := G) t0 p hok hl
 have hwf : wfT t0 → wfT (walkM t0 p) := fun h => by
  have : ∀ (p : List Nat) (t : Tm), wfT t → wfT (walkM t p) := fun p => by
   induction p with
   | nil => intro t h; exact h
   | cons i p ih =>
    intro t h
    simp only [walkM]
    split
    ·rename_i x hx
     obtain ⟨k, n, r, ks, cs⟩ := t
     exact ih x (wfTs_mem h.2.1 _ (List.mem_of_getElem? hx))
    ·exact h
  exact this p t0 h
 have hwf2 : ∀ i, wfT t0 → wfT (walkM t0 (p.take i)) := fun i h => by
  have : ∀ (p : List Nat) (t : Tm), wfT t → wfT (walkM t p) := fun p => by
   induction p with
   | nil => intro t h; exact h
   | cons i p ih =>
    intro t h
    simp only [walkM]
    split
    ·rename_i x hx
     obtain ⟨k, n, r, ks, cs⟩ := t
     exact ih x (wfTs_mem h.2.1 _ (List.mem_of_getElem? hx))
    ·exact h
  exact this _ t0 h
 refine FCall.of_tri tbl 41 Tryz.func92 rfl rfl rfl fun w0 M ρ0 D0 => ?_
 refine Tri.fact (i := 0) rfl (fun D w x h => tm_wf h) (fun hr => ?_)
 have hdl := hwf hr
 generalize hd : walkM t0 p = d at hac hdl ⊢
 obtain ⟨dk, dn, dr, dks, dcs⟩ := d
 simp only [Tm.ref]
 refine yR ?_;refine s_box SS 2 ?_;refine yB ?_;refine e_seqN [2] ?_;refine Y54 ?_;refine s_val (v_callD (fun _ => hac)) ?_;refine s_val (v_getField SS (ht := TyV.ok)) ?_;refine s_alloc SS 5 ?_;refine yS ?_;refine e_seqN [5] ?_;refine Y1 ?_;refine Y24 ?_;refine Y2 ?_;refine Tri.block (Tri.loopW (σ := {j : Nat // j ≤ p.length ∧ handM (wayM t0 p) dr p.length = handM (wayM t0 p) dr j}) (fun i => ⟨[(2, .ptr 2 [] 32), (5, .ptr 5 [] 28), (1, .pu (.sl 0 3 (pathL p))), (6, iv .i64 ((i.1 : Int) - 1))], [(2, .var 32 (.pu (tmc 0 t0))), (5, .var 28 (.pu (refP dr)))]⟩) (fun i => i.1) ⟨p.length, Nat.le_refl _, rfl⟩ ?_ ?_ (fun i => ?_))
 ·repeat (first | exact .nil | refine .cons rfl (by first | exact .refl | (focus ((repeat constructor); done)) | (rw [path_len, wrap64 (by omega) (by omega)]; exact .refl)) ?_)
 ·repeat (first | exact .nil | refine .cons rfl (by first | exact .refl | (focus ((repeat constructor); done)) | (rw [path_len, wrap64 (by omega) (by omega)]; exact .refl)) ?_)
 refine Y34 ?_;refine Tri.cond rfl (fun h0 => ?_) (fun h0 => ?_)
 ·skip
  have hj : 0 < i.1 := by simp at h0; omega
  obtain ⟨j, hj⟩ : ∃ j, i.1 = j + 1 := ⟨i.1 - 1, by omega⟩
  have hjp : j < p.length := by have := i.2.1; omega
  have hwg := way_get hok (show j ≤ p.length by omega)
  have hxl := hwf2 j hr
  have hst := i.2.2
  rw [hj] at hst
  simp only [handM, hwg] at hst
  have hxz := hz j hjp
  have hpg := path_get hjp
  have hatj := rat_c (G := G) t0 (p.take j) (walk_take_ok j hok) (by rw [List.length_take]; omega)
  rw [← pathL_take] at hatj
  generalize walkM t0 (p.take j) = x at hxl hst hxz hatj
  obtain ⟨xk, xn, xr, xs, xc⟩ := x
  simp only [Tm.kind, Tm.ref] at hst hxz
  have hij : ((i.1 : Int) - 1) = (j : Int) := by omega
  refine Tri.skip ?_;refine tQ ?_;refine Tri.block ?_;rw [hij];refine Y6 ?_;refine Y42 ?_;refine s_val (v_sliceTo SS (ps := pathL p) (r := j) (by rw [path_len]; omega)) ?_;refine s_val (v_callD (fun _ => hatj)) ?_;refine s_alloc SS 7 ?_;refine yS ?_;refine e_drawN [7] ?_;refine Y41 ?_;refine xL ?_;refine s_gg zG (v_bin SS (h := bin_eqS (hxl.1.trans hdl.1.symm))) ?_;refine yN ?_;refine Y22 ?_;refine xM ?_;refine s_gg zG (v_indexG SS (i := (j : Int)) (.leaf (.int .i64 (p[j] : Nat))) (fun _ => ⟨by omega, by simpa using hpg⟩)) ?_;refine xL ?_;refine Y17 ?_;refine Y0 ?_;refine Tri.cond rfl (fun h1 => ?_) (fun h1 => ?_)
  ·skip
   have hxe : xk = 12 ∧ xr = dr := by simp only [Bool.and_eq_true, beq_iff_eq] at h1; exact h1.1
   refine Y61 ?_;exact Tri.ret ⟨.inr rfl, ret1 rfl resV_tmp (iv_imp (hst.trans (if_pos (by simp [hxe]))).symm)⟩
  ·skip
   have hnext : handM (wayM t0 p) dr p.length = handM (wayM t0 p) dr j := by
    refine hst.trans (if_neg fun hc => ?_)
    simp only [Bool.and_eq_true, beq_iff_eq] at hc
    have := hxz hc.1
    simp [hc.1, hc.2, this] at h1
   refine Tri.skip ?_;refine Y28 ?_
   refine ⟨⟨j, by omega, hnext⟩, by show j < i.1; omega, le_of ?_ ?_⟩
   ·repeat (first | exact SubE.nil | refine SubE.cons rfl (by first | rfl | (rw [wrap64 (by omega) (by omega)]; rfl) | (rw [wrap64 (by omega) (by omega)])) ?_)
   ·repeat (first | exact SubH.nil | refine SubH.cons rfl (by first | rfl | (rw [wrap64 (by omega) (by omega)]; rfl) | (rw [wrap64 (by omega) (by omega)])) ?_)
 ·skip
  refine Tri.exit ?_;refine Y8 ?_;exact Tri.ret ⟨.inr rfl, ret1 rfl resV_tmp (iv_imp (by have := i.2.2; simp at h0; rw [this, show i.1 = 0 by omega]; rfl))⟩
end Go.Proofs.YtkcgkignhpepkaaGreatDoor

