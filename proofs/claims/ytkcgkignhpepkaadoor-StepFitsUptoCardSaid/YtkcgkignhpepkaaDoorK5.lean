/- Part 5 of the proof: lemmas on walks and the walks of the functions, in their order. -/
import Derived.Test.YtkcgkignhpepkaaDoorK4
set_option linter.unusedSimpArgs false
set_option linter.unusedVariables false
/- The checker of terms, whole. -/
namespace Go.Proofs.YtkcgkignhpepkaaDoor
open Go Hs
variable {G : List (Nat × TypeId × Pu)}

def csP : Cs → Pat
  | .mk p _ => p
def orE (a b : Int) : Int := if a = 0 then b else a
mutual
def aerr (m d b : Int) : Tm → Int
  | .mk k n r ks cs => orE (termErr m d b k n r ks.length cs.length) (orE (firstE (fun c => perr (csP c)) cs) (orE (aerrK m d b k 0 ks) (aerrC m d b cs)))
def aerrK (m d b k : Int) (i : Nat) : List Tm → Int
  | [] => 0
  | t :: ts => orE (aerr m d (b + moreM k i) t) (aerrK m d b k (i + 1) ts)
def aerrC (m d b : Int) : List Cs → Int
  | [] => 0
  | c :: cs => orE (aerrCs m d b c) (aerrC m d b cs)
def aerrCs (m d b : Int) : Cs → Int
  | .mk p t => aerr m d (b + bindsM p) t
end
def outA (m d b : Int) (x : It) : Option Int := if aerr m d (b + x.more) x.t = 0 then none else some (aerr m d (b + x.more) x.t)
theorem zOf_append {out : It → Option Int} (h : ∀ x e, out x = some e → e ≠ 0) : ∀ (l l' : List It), zOf ((l ++ l').findSome? out) = orE (zOf (l.findSome? out)) (zOf (l'.findSome? out))
  | [], l' => by simp [orE, zOf]
  | x :: l, l' => by
    simp only [List.cons_append, List.findSome?_cons]
    cases ho : out x with
    | none => exact zOf_append h l l'
    | some e => have := h x e ho; simp [zOf, orE, this]
theorem outA_ne {m d b : Int} : ∀ x e, outA m d b x = some e → e ≠ 0 := fun x e h => by
  unfold outA at h
  split at h
  · cases h
  · rename_i h0; cases h; exact h0
theorem zK (m d b k : Int) : ∀ (ks : List Tm) (i : Nat), zOf ((ks.mapIdx fun j x => (⟨((i + j : Nat) : Int), x, moreM k ((i + j : Nat) : Int)⟩ : It)).findSome? (outA m d b)) = aerrK m d b k i ks
  | [], i => rfl
  | t :: ts, i => by
    have ih := zK m d b k ts (i + 1)
    simp only [List.mapIdx_cons, List.findSome?_cons, aerrK, Nat.add_zero]
    have e : (fun (j : Nat) (x : Tm) => (⟨((i + (j + 1) : Nat) : Int), x, moreM k ((i + (j + 1) : Nat) : Int)⟩ : It)) = fun j x => ⟨((i + 1 + j : Nat) : Int), x, moreM k ((i + 1 + j : Nat) : Int)⟩ := by funext j x; rw [show i + (j + 1) = i + 1 + j by omega]
    rw [e]
    unfold orE
    by_cases h : aerr m d (b + moreM k i) t = 0
    · rw [show outA m d b ⟨(i : Int), t, moreM k i⟩ = none by simp [outA, h], if_pos h]
      exact ih
    · rw [show outA m d b ⟨(i : Int), t, moreM k i⟩ = some (aerr m d (b + moreM k i) t) by simp [outA, h], if_neg h]
      rfl
theorem zC (m d b : Int) (n : Nat) : ∀ (cs : List Cs) (i : Nat), zOf ((cs.mapIdx fun j c => (⟨(n : Int) + ((i + j : Nat) : Int), csT c, csB c⟩ : It)).findSome? (outA m d b)) = aerrC m d b cs
  | [], i => rfl
  | .mk q t :: cs, i => by
    have ih := zC m d b n cs (i + 1)
    simp only [List.mapIdx_cons, List.findSome?_cons, aerrC, aerrCs, Nat.add_zero]
    have e : (fun (j : Nat) (c : Cs) => (⟨(n : Int) + ((i + (j + 1) : Nat) : Int), csT c, csB c⟩ : It)) = fun j c => ⟨(n : Int) + ((i + 1 + j : Nat) : Int), csT c, csB c⟩ := by funext j c; rw [show i + (j + 1) = i + 1 + j by omega]
    rw [e]
    rw [show csT (.mk q t) = t from rfl, show csB (.mk q t) = bindsM q from rfl]
    unfold orE
    by_cases h : aerr m d (b + bindsM q) t = 0
    · rw [show outA m d b ⟨(n : Int) + (i : Int), t, bindsM q⟩ = none by simp [outA, h], if_pos h]
      exact ih
    · rw [show outA m d b ⟨(n : Int) + (i : Int), t, bindsM q⟩ = some (aerr m d (b + bindsM q) t) by simp [outA, h], if_neg h]
      rfl
theorem z_its (m d b k n : Int) (r : List Int) (ks : List Tm) (cs : List Cs) : zOf ((itsOf (.mk k n r ks cs)).findSome? (outA m d b)) = orE (aerrK m d b k 0 ks) (aerrC m d b cs) := by
  have h1 := zK m d b k ks 0
  have h2 := zC m d b ks.length cs 0
  simp only [Nat.zero_add] at h1 h2
  unfold itsOf kidIts caseIts
  rw [zOf_append outA_ne, h1, h2]
theorem it_bound {k n : Int} {r : List Int} {ks : List Tm} {cs : List Cs} {x : It} (h : x ∈ itsOf (.mk k n r ks cs)) : tsize x.t ≤ tsizeL ks + csizeL cs ∧ 0 ≤ x.more ∧ x.more + 2 * tsize x.t ≤ 2 * (1 + tsizeL ks + csizeL cs) := by
  unfold itsOf kidIts caseIts at h
  rcases List.mem_append.1 h with h | h
  · obtain ⟨i, hi, rfl⟩ := List.mem_mapIdx.1 h
    have := tsize_mem (List.getElem_mem hi)
    have : moreM k i = 0 ∨ moreM k i = 1 ∨ moreM k i = 2 := by unfold moreM; split <;> (try split) <;> simp
    simp only
    omega
  · obtain ⟨i, hi, rfl⟩ := List.mem_mapIdx.1 h
    have := csize_mem (List.getElem_mem hi)
    generalize cs[i] = c at this ⊢
    obtain ⟨q, t⟩ := c
    have hb := binds_bound q
    simp only [csT, csB, csize] at this ⊢
    omega
instance (t : Tm) (m : Int) : TyV Tryd.prog 155 (.pu (partP t m)) := inferInstanceAs (TyV Tryd.prog 155 (.pu (.agg _ _)))
theorem css_pat {lo : Nat} {c : Cs} : csec lo c = .agg 34 [patc lo (csP c), tmc lo (csT c)] := by cases c; rfl

theorem all_c (members depth : Int) : ∀ (N : Nat) (t : Tm), tsize t ≤ N → N < 2^40 → ∀ bound : Int, 0 ≤ bound → bound + 2 * tsize t ≤ 2^42 →
    HCall Tryd.prog G 85 [chV members, .pu (tmc 0 t), iv .i64 bound] (dpO depth) [] (iv .i64 (aerr members depth bound t)) [] [] := by
  intro N
  induction N with
  | zero => intro t h; have := tsize_pos t; omega
  | succ N ih =>
  intro t hp hN bound hb0 hb1
  obtain ⟨k, n, r, ks, cs⟩ := t
  have hsz : tsize (.mk k n r ks cs) < 2^40 := by omega
  simp only [tsize] at hp hb1
  have hlen := length_tsizeL ks
  have hlenc := length_csizeL cs
  refine HCall.of_triD tbl 50 [] Tryd.func85 rfl rfl rfl fun w0 M ρ0 D0 => ?_
  refine yR ?_
  refine s_box SS 3 ?_
  refine s_box SS 4 ?_
  refine s_box SS 5 ?_
  refine s_alloc SS 6 ?_
  refine e_seqN [3, 4, 5, 6] ?_
  refine yR ?_
  refine yL ?_
  refine yL ?_
  refine yL ?_
  refine s_val (v_callO (fun _ => cterm_c members depth bound k n r ks cs)) ?_
  refine yA ?_
  refine e_seq ?_
  refine yR ?_
  refine yM ?_
  refine yI ?_
  refine e_seq ?_
  repeat refine Tri.seq ?_
  refine Tri.cond rfl (fun h0 => ?_) (fun h0 => ?_)
  · skip
    have h0' : termErr members depth bound k n r ks.length cs.length ≠ 0 := by simpa using h0
    refine yR ?_
    refine yM ?_
    refine yS ?_
    refine e_seq ?_
    repeat refine Tri.seq ?_
    exact Tri.ret ⟨.inr rfl, ret1 rfl resV_cell (iv_imp (by simp [aerr, orE, h0'])), by repeat (first | exact OutH.nil | refine OutH.cons rfl (by first | exact ObImp.refl _ | exact OWk.imp (by repeat constructor)) ?_)⟩
  · skip
    have h0' : termErr members depth bound k n r ks.length cs.length = 0 := by simpa using h0
    refine Tri.skip ?_
    refine yR ?_
    refine yF ?_
    refine yK ?_
    refine yC ?_
    refine yJ ?_
    refine e_seq ?_
    repeat refine Tri.seq ?_
    refine Tri.block (Tri.loopW (σ := {i : Nat // firstE (fun c => perr (csP c)) (cs.take i) = 0}) (fun i => ⟨[(3, .ptr 3 [] 144), (4, .ptr 4 [] 30), (5, .ptr 5 [] 3), (6, .ptr 6 [] 61), (22, .pu (.sl 0 34 (cssc 0 cs))), (23, iv .i64 (cssc 0 cs).length), (24, iv .i64 i.1)], [(3, .var 144 (chV members)), (4, .var 30 (.pu (tmc 0 (.mk k n r ks cs)))), (5, .var 3 (iv .i64 bound)), (6, .var 61 (iv .i64 0)), (901, .var 3 (iv .i64 depth))]⟩) (fun i => cs.length - i.1) ⟨0, rfl⟩ ?_ ?_ (fun i => ?_))
    · exact zW
    · exact zW
    refine yR ?_
    refine yI ?_
    refine e_seq ?_
    repeat refine Tri.seq ?_
    refine Tri.cond rfl (fun h1 => ?_) (fun h1 => ?_)
    · skip
      have hi : i.1 < cs.length := by rw [css_length] at h1; simpa using h1
      have hcz := csize_mem (List.getElem_mem hi)
      have hpz : psize (csP cs[i.1]) ≤ csize cs[i.1] := by generalize cs[i.1] = c; cases c; simp only [csP, csize]; omega
      have hget := css_get (lo := 0) hi
      rw [css_pat] at hget
      refine Tri.skip ?_
      repeat refine Tri.seq ?_
      refine Tri.block ?_
      refine yR ?_
      refine s_val (v_index SS (h0 := by omega) (hp := hget)) ?_
      refine yL ?_
      refine s_alloc SS 9 ?_
      refine yS ?_
      refine e_seqN [9] ?_
      refine yR ?_
      refine yF ?_
      refine yL ?_
      refine s_val (v_callD (fun _ => patternsError_c _ (csP cs[i.1]) (Nat.le_refl _) (by omega))) ?_
      refine yA ?_
      refine e_seq ?_
      refine yR ?_
      refine yM ?_
      refine yI ?_
      refine e_seq ?_
      repeat refine Tri.seq ?_
      refine Tri.cond rfl (fun h2 => ?_) (fun h2 => ?_)
      · skip
        have h2' : perr (csP cs[i.1]) ≠ 0 := by simpa using h2
        have hf : firstE (fun c => perr (csP c)) (cs.take (i.1 + 1)) = perr (csP cs[i.1]) := by rw [firstE_take _ hi, if_pos i.2]
        have hf2 := firstE_pre (fun c => perr (csP c)) (l := cs) (i := i.1 + 1) (by rw [hf]; exact h2')
        refine yR ?_
        refine yM ?_
        refine yS ?_
        refine e_seq ?_
        repeat refine Tri.seq ?_
        exact Tri.ret ⟨.inr rfl, ret1 rfl resV_cell (iv_imp (by simp [aerr, orE, h0', hf2, hf, h2'])), by repeat (first | exact OutH.nil | refine OutH.cons rfl (by first | exact ObImp.refl _ | exact OWk.imp (by repeat constructor)) ?_)⟩
      · skip
        have h2' : perr (csP cs[i.1]) = 0 := by simpa using h2
        have hnext : firstE (fun c => perr (csP c)) (cs.take (i.1 + 1)) = 0 := by rw [firstE_take _ hi, if_pos i.2, h2']
        refine Tri.skip ?_
        refine yR ?_
        refine yI ?_
        refine yM ?_
        refine e_seq ?_
        refine ⟨⟨i.1 + 1, hnext⟩, by show cs.length - (i.1 + 1) < cs.length - i.1; omega, le_of ?_ ?_⟩
        · exact zE
        · exact zH
    · skip
      have hz1 : firstE (fun c => perr (csP c)) cs = 0 := by have := i.2; rwa [List.take_of_length_le (by rw [css_length] at h1; simp at h1; omega)] at this
      have hz2 := z_its members depth bound k n r ks cs
      have haerr : aerr members depth bound (.mk k n r ks cs) = zOf ((itsOf (.mk k n r ks cs)).findSome? (outA members depth bound)) := by rw [hz2]; simp [aerr, orE, h0', hz1]
      refine Tri.exit ?_
      refine yR ?_
      refine yL ?_
      refine s_call (parts_c (.mk k n r ks cs)) ?_
      refine e_seqN [801] ?_
      repeat refine Tri.seq ?_
      refine Tri.block ?_
      repeat refine Tri.seq ?_
      refine Tri.overFunc 900 [801, 3, 5, 901, 6, 900] [6, 900] [(3, .ptr 3 [] 144), (5, .ptr 5 [] 3), (6, .ptr 6 [] 61)] (parts1_c (.mk k n r ks cs) hsz members depth bound (outA members depth bound)) (by intro x _; rfl) (fun x hx r w0 M ρ0 D0 l => ?_) (fun hdone => ?_) (fun z hz => ?_)
      · skip
        refine yR ?_
        refine s_alloc SS 12 ?_
        refine yS ?_
        refine e_seqN [12] ?_
        refine ⟨rfl, ?_⟩
        have hit := it_bound hx
        have hcall := ih x.t (by omega) (by omega) (bound + x.more) (by omega) (by omega)
        repeat refine Tri.seq ?_
        refine Tri.block ?_
        refine yR ?_
        refine yL ?_
        refine yF ?_
        refine yL ?_
        refine yL ?_
        refine yF ?_
        refine yL ?_
        refine yI ?_
        refine s_val (v_callO (fun _ => hcall)) ?_
        refine yA ?_
        refine e_seq ?_
        refine yR ?_
        refine yM ?_
        refine yI ?_
        refine e_seq ?_
        repeat refine Tri.seq ?_
        refine Tri.cond rfl (fun h3 => ?_) (fun h3 => ?_)
        · skip
          have h3' : outA members depth bound x = some (aerr members depth (bound + x.more) x.t) := by unfold outA; rw [if_neg (by simpa using h3)]
          refine yR ?_
          refine yM ?_
          refine yS ?_
          refine e_seq ?_
          repeat refine Tri.seq ?_
          refine Tri.ret ⟨rfl, ?_, ?_⟩
          · rw [h3']; rfl
          · rw [h3']; exact .cons rfl (ObImp.refl _) .nil
        · skip
          have h3' : outA members depth bound x = none := by unfold outA; rw [if_pos (by simpa using h3)]
          refine Tri.skip ?_
          refine ⟨rfl, ?_, ?_⟩
          · rw [h3']; rfl
          · rw [h3']; exact .cons rfl (ObImp.refl _) .nil
      · skip
        refine yR ?_
        refine yS ?_
        refine e_seq ?_
        repeat refine Tri.seq ?_
        exact Tri.ret ⟨.inr rfl, ret1 rfl resV_cell (iv_imp (by rw [haerr, hdone]; rfl)), by repeat (first | exact OutH.nil | refine OutH.cons rfl (by first | exact ObImp.refl _ | exact OWk.imp (by repeat constructor)) ?_)⟩
      · skip
        exact Tri.ret ⟨.inr rfl, ret1 rfl resV_cell (iv_imp (by rw [haerr, hz]; rfl)), .nil⟩
end Go.Proofs.YtkcgkignhpepkaaDoor

/- The checks of a term, and of a world and a term. -/
namespace Go.Proofs.YtkcgkignhpepkaaDoor
open Go Hs
variable {G : List (Nat × TypeId × Pu)}

def checkM (t : Tm) (depth members : Int) : Int := if (longT 300 60 1 0 t).1 then 11 else aerr members depth 0 t
theorem check_c (t : Tm) (hN : tsize t < 2^40) (depth members : Int) : FCall Tryd.prog G 63 [.pu (tmc 0 t), iv .i64 depth, iv .i64 members] (iv .i64 (checkM t depth members)) := by
  refine FCall.of_tri tbl 18 Tryd.func63 rfl rfl rfl fun w0 M ρ0 D0 => ?_
  refine yR ?_
  refine s_box SS 3 ?_
  refine s_box SS 901 ?_
  refine yB ?_
  refine e_seqN [3, 901] ?_
  refine yR ?_
  refine yT ?_
  refine s_box SS 90 ?_
  refine yL ?_
  refine s_call (lgT_c _ t (Nat.le_refl _) hN 1 0 (by omega) (by omega)) ?_
  refine e_seqN [90] ?_
  repeat refine Tri.seq ?_
  refine Tri.cond rfl (fun h0 => ?_) (fun h0 => ?_)
  · skip
    refine yR ?_
    refine yB ?_
    refine e_seq ?_
    repeat refine Tri.seq ?_
    exact Tri.ret ⟨.inr rfl, ret1 rfl resV_tmp (iv_imp (by simp [checkM, h0]))⟩
  · skip
    refine Tri.skip ?_
    refine yR ?_
    refine yM ?_
    refine s_val (v_mkFnD SS) ?_
    refine yP ?_
    refine s_alloc SS 7 ?_
    refine yS ?_
    refine e_seqN [7] ?_
    refine yR ?_
    refine yL ?_
    refine yL ?_
    refine s_val (v_callO (fun _ => all_c members depth _ t (Nat.le_refl _) hN 0 (by omega) (by omega))) ?_
    refine yA ?_
    refine e_seq ?_
    repeat refine Tri.seq ?_
    exact Tri.ret ⟨.inr rfl, ret1 rfl resV_tmp (iv_imp (by simp [checkM, h0]))⟩

/-- A known term: its digest, its body. -/
abbrev KT := List Int × Tm
def ktP (x : KT) : Pu := .agg 71 [refP x.1, tmc 0 x.2]
def wdP (a b : Pu) (ts : List KT) : Pu := .agg 52 [a, b, .sl 0 71 (ts.map ktP)]
instance (x : KT) : TyV Tryd.prog 71 (.pu (ktP x)) := inferInstanceAs (TyV Tryd.prog 71 (.pu (.agg _ _)))
instance (a b : Pu) (ts : List KT) : TyV Tryd.prog 52 (.pu (wdP a b ts)) := inferInstanceAs (TyV Tryd.prog 52 (.pu (.agg _ _)))
theorem kt_get {ts : List KT} {i : Nat} (h : i < ts.length) : (ts.map ktP)[i]? = some (ktP ts[i]) := by simp [h]
theorem kts_wf {D : Nat → Nat → Prop} {w : World} : ∀ {ts : List KT} {cs : List (Nat × TypeId)} {x : List Value}, PRs Tryd.prog D w cs (ts.map ktP) x → ∀ x ∈ ts, x.1.length = 32
  | [], _, _, _, x, hx => by cases hx
  | t :: ts, _, _, h, x, hx => by
    obtain ⟨⟨_, h1⟩, _, _, h2⟩ := PRs_cons h
    rcases List.mem_cons.1 hx with rfl | hx
    · obtain ⟨_, h1⟩ := PR_agg h1
      obtain ⟨⟨_, h1⟩, _⟩ := PRs_cons h1
      exact ref_len h1
    · exact kts_wf h2 x hx
theorem wd_wf {D : Nat → Nat → Prop} {w : World} {a b : Pu} {ts : List KT} {x : List Value} (h : PR Tryd.prog D w (wdP a b ts) x) : ∀ x ∈ ts, x.1.length = 32 := by
  obtain ⟨_, h⟩ := PR_agg h
  obtain ⟨_, _, _, h⟩ := PRs_cons h
  obtain ⟨_, _, _, h⟩ := PRs_cons h
  obtain ⟨⟨_, h⟩, _⟩ := PRs_cons h
  obtain ⟨_, _, h⟩ := PR_sl h
  exact kts_wf h

/-- A map by digests. -/
def mapE (l : List (List Int × PV)) : List (Pu × PV) := l.map fun x => (refP x.1, x.2)
def lookS (s : List Int) : List (List Int × PV) → Option PV
  | [] => none
  | x :: l => if s = x.1 then some x.2 else lookS s l
theorem findE_none {s : List Int} (hs : s.length = 32) : ∀ {l : List (List Int × PV)} {i : Nat}, (∀ x ∈ l, x.1.length = 32) → lookS s l = none → findE Tryd.prog 23 (refP s) (mapE l) i = some none
  | [], _, _, _ => rfl
  | x :: l, i, h, hn => by
    simp only [lookS] at hn
    split at hn
    · cases hn
    · rename_i hne
      simp only [mapE, List.map_cons, findE, peq_ref (hs.trans (h x (by simp)).symm)]
      rw [show (s == x.1) = false by simpa using hne]
      exact findE_none hs (fun y hy => h y (by simp [hy])) hn
theorem findE_some {s : List Int} (hs : s.length = 32) : ∀ {l : List (List Int × PV)} {i : Nat} {v : PV}, (∀ x ∈ l, x.1.length = 32) → lookS s l = some v → ∃ j, findE Tryd.prog 23 (refP s) (mapE l) i = some (some (j, v))
  | [], _, _, _, h => by cases h
  | x :: l, i, v, h, hn => by
    simp only [lookS] at hn
    simp only [mapE, List.map_cons, findE, peq_ref (hs.trans (h x (by simp)).symm)]
    split at hn
    · rename_i he
      simp at hn
      rw [show (s == x.1) = true by simpa using he]
      exact ⟨i, by rw [hn]⟩
    · rename_i hne
      rw [show (s == x.1) = false by simpa using hne]
      exact findE_some hs (fun y hy => h y (by simp [hy])) hn
theorem mapGet_none {s : List Int} {V : TypeId} {z : PV} {l : List (List Int × PV)} (hz : SS.Z V = some z) (hs : s.length = 32) (h : ∀ x ∈ l, x.1.length = 32) (hn : lookS s l = none) : mapGet Tryd.prog SS 23 V (refP s) (mapE l) = some (z, false) := by
  unfold mapGet
  rw [findE_none hs h hn, hz]
theorem mapGet_some {s : List Int} {V : TypeId} {v : PV} {l : List (List Int × PV)} (hs : s.length = 32) (h : ∀ x ∈ l, x.1.length = 32) (hn : lookS s l = some v) : mapGet Tryd.prog SS 23 V (refP s) (mapE l) = some (v, true) := by
  unfold mapGet
  obtain ⟨j, hj⟩ := findE_some (i := 0) hs h hn
  rw [hj]
theorem mapE_ty (l : List (List Int × PV)) : ∀ q ∈ mapE l, tyP Tryd.prog 23 q.1 = true := by
  intro q hq
  obtain ⟨x, _, rfl⟩ := List.mem_map.1 hq
  exact (sum_cond x.1 x.1).2.2.1
theorem mapE_append (l : List (List Int × PV)) (s : List Int) (v : PV) : mapE (l ++ [(s, v)]) = mapE l ++ [(refP s, v)] := by simp [mapE]

instance {V : TypeId} {α : Type} {l : List α} {f : α → List Int} {g : α → Pu} : NoLab (.map 23 V (mapE (l.map fun x => (f x, .pu (g x))))) := ⟨by
  have := (NoLab.map (K := 23) (V := V) (l := l) (f := fun x => refP (f x)) (g := fun x => .pu (g x)) (fun _ => rfl)).ok
  unfold mapE
  rw [List.map_map]
  exact this⟩
instance {K V : TypeId} {es : List (Pu × PV)} {k p : Pu} [h : NoLab (.map K V es)] : NoLab (.map K V (es ++ [(k, .pu p)])) := ⟨by
  have h1 : PV.labsL (es.map (·.2)) = [] := h.ok
  show PV.labsL ((es ++ [(k, PV.pu p)]).map (·.2)) = []
  rw [List.map_append]
  generalize es.map (·.2) = l at h1 ⊢
  induction l with
  | nil => rfl
  | cons a l ih => simp only [PV.labsL, List.append_eq_nil_iff, List.cons_append] at h1 ⊢; exact ⟨h1.1, ih h1.2⟩⟩
def metL (ts : List KT) : List (List Int × PV) := ts.map fun x => (x.1, bv true)
theorem look_met {s : List Int} : ∀ {ts : List KT}, lookS s (metL ts) = if s ∈ ts.map (·.1) then some (bv true) else none
  | [] => by simp [metL, lookS]
  | x :: ts => by
    have ih := look_met (s := s) (ts := ts)
    unfold metL at ih ⊢
    simp only [List.map_cons, lookS, ih, List.mem_cons]
    by_cases h : s = x.1
    · simp [h]
    · simp only [h, if_false, false_or]
instance {V : TypeId} {ts : List KT} : NoLab (.map 23 V (mapE (metL ts))) := inferInstanceAs (NoLab (.map 23 V (mapE (ts.map fun x => (x.1, .pu (.leaf (.bool true)))))))
theorem metL_take {ts : List KT} {i : Nat} (h : i < ts.length) : metL (ts.take (i + 1)) = metL (ts.take i) ++ [(ts[i].1, bv true)] := by
  unfold metL
  rw [List.take_succ_eq_append_getElem h, List.map_append]; rfl
theorem met_len {ts : List KT} (h : ∀ x ∈ ts, x.1.length = 32) : ∀ x ∈ metL ts, x.1.length = 32 := by
  intro x hx
  obtain ⟨y, hy, rfl⟩ := List.mem_map.1 hx
  exact h y hy

def dupM (ts : List KT) : Bool := !decide (ts.map (·.1)).Nodup
def stepCheckM (ts : List KT) (t : Tm) : Int := if decide ((ts.length : Int) > 40) then 2 else orE (firstE (fun x => checkM x.2 0 0) ts) (if dupM ts then 5 else checkM t 0 0)
theorem nodup_take {α : Type} {l : List α} {i : Nat} (h : i < l.length) : (l.take (i + 1)).Nodup ↔ (l.take i).Nodup ∧ l[i] ∉ l.take i := by
  rw [List.take_succ_eq_append_getElem h, List.nodup_append]
  simp only [List.nodup_cons, List.not_mem_nil, not_false_eq_true, List.nodup_nil, and_self, true_and, List.mem_singleton]
  exact ⟨fun ⟨h1, h2⟩ => ⟨h1, fun hm => h2 _ hm _ rfl rfl⟩, fun ⟨h1, h2⟩ => ⟨h1, fun a ha b hb e => h2 (by rw [← hb, ← e]; exact ha)⟩⟩

theorem stepCheck_c (a b : Pu) (ts : List KT) (t : Tm) (hts : ∀ x ∈ ts, tsize x.2 < 2^40) (hN : tsize t < 2^40) : FCall Tryd.prog G 50 [.pu (wdP a b ts), .pu (tmc 0 t)] (iv .i64 (stepCheckM ts t)) := by
  refine FCall.of_tri tbl 47 Tryd.func50 rfl rfl rfl fun w0 M ρ0 D0 => ?_
  refine Tri.fact (i := 0) rfl (fun D w x h => wd_wf h) (fun hr => ?_)
  refine yR ?_
  refine s_box SS 2 ?_
  refine s_box SS 3 ?_
  refine yB ?_
  refine e_seqN [2, 3] ?_
  refine yR ?_
  refine yF ?_
  refine yK ?_
  refine yC ?_
  refine yI ?_
  refine e_seq ?_
  repeat refine Tri.seq ?_
  refine Tri.cond rfl (fun h0 => ?_) (fun h0 => ?_)
  · skip
    refine yR ?_
    refine yB ?_
    refine e_seq ?_
    repeat refine Tri.seq ?_
    exact Tri.ret ⟨.inr rfl, ret1 rfl resV_tmp (iv_imp (by simp at h0; simp [stepCheckM, h0]))⟩
  · skip
    have hts40 : ¬ ((ts.length : Int) > 40) := by simpa using h0
    refine Tri.skip ?_
    refine yR ?_
    refine yF ?_
    refine yK ?_
    refine yC ?_
    refine yJ ?_
    refine e_seq ?_
    repeat refine Tri.seq ?_
    refine Tri.block (Tri.loopW (σ := {i : Nat // firstE (fun x : KT => checkM x.2 0 0) (ts.take i) = 0}) (fun i => ⟨[(2, .ptr 2 [] 52), (3, .ptr 3 [] 30), (16, .pu (.sl 0 71 (ts.map ktP))), (17, iv .i64 (ts.map ktP).length), (18, iv .i64 i.1)], [(2, .var 52 (.pu (wdP a b ts))), (3, .var 30 (.pu (tmc 0 t)))]⟩) (fun i => ts.length - i.1) ⟨0, rfl⟩ ?_ ?_ (fun i => ?_))
    · exact zW
    · exact zW
    refine yR ?_
    refine yI ?_
    refine e_seq ?_
    repeat refine Tri.seq ?_
    refine Tri.cond rfl (fun h1 => ?_) (fun h1 => ?_)
    · skip
      have hi : i.1 < ts.length := by simpa using h1
      refine Tri.skip ?_
      repeat refine Tri.seq ?_
      refine Tri.block ?_
      refine yR ?_
      refine s_val (v_index SS (h0 := by omega) (hp := kt_get hi)) ?_
      refine yL ?_
      refine s_alloc SS 6 ?_
      refine yS ?_
      refine e_seqN [6] ?_
      refine yR ?_
      refine yF ?_
      refine yL ?_
      refine s_val (v_callD (fun _ => check_c ts[i.1].2 (hts _ (List.getElem_mem hi)) 0 0)) ?_
      refine yA ?_
      refine e_seq ?_
      refine yR ?_
      refine yM ?_
      refine yI ?_
      refine e_seq ?_
      repeat refine Tri.seq ?_
      refine Tri.cond rfl (fun h2 => ?_) (fun h2 => ?_)
      · skip
        have h2' : checkM ts[i.1].2 0 0 ≠ 0 := by simpa using h2
        have hf : firstE (fun x : KT => checkM x.2 0 0) (ts.take (i.1 + 1)) = checkM ts[i.1].2 0 0 := by rw [firstE_take _ hi, if_pos i.2]
        have hf2 := firstE_pre (fun x : KT => checkM x.2 0 0) (l := ts) (i := i.1 + 1) (by rw [hf]; exact h2')
        refine yR ?_
        refine yM ?_
        refine yA ?_
        refine e_seq ?_
        repeat refine Tri.seq ?_
        exact Tri.ret ⟨.inr rfl, ret1 rfl resV_tmp (iv_imp (by simp [stepCheckM, hts40, orE, hf2, hf, h2']))⟩
      · skip
        have h2' : checkM ts[i.1].2 0 0 = 0 := by simpa using h2
        have hnext : firstE (fun x : KT => checkM x.2 0 0) (ts.take (i.1 + 1)) = 0 := by rw [firstE_take _ hi, if_pos i.2, h2']
        refine Tri.skip ?_
        refine yR ?_
        refine yI ?_
        refine yM ?_
        refine e_seq ?_
        refine ⟨⟨i.1 + 1, hnext⟩, by show ts.length - (i.1 + 1) < ts.length - i.1; omega, le_of ?_ ?_⟩
        · exact zE
        · exact zH
    · skip
      have hz1 : firstE (fun x : KT => checkM x.2 0 0) ts = 0 := by have := i.2; rwa [List.take_of_length_le (by simp at h1; omega)] at this
      refine Tri.exit ?_
      refine yR ?_
      refine s_makeMap 29 ?_
      refine yA ?_
      refine e_seqN [29] ?_
      refine yR ?_
      refine yF ?_
      refine yK ?_
      refine yC ?_
      refine yJ ?_
      refine e_seq ?_
      repeat refine Tri.seq ?_
      refine Tri.block (Tri.loopW (σ := {i : Nat // ((ts.take i).map (·.1)).Nodup}) (fun i => ⟨[(2, .ptr 2 [] 52), (3, .ptr 3 [] 30), (31, .pu (.sl 0 71 (ts.map ktP))), (32, iv .i64 (ts.map ktP).length), (33, iv .i64 i.1), (8, .mp 29 23 4)], [(2, .var 52 (.pu (wdP a b ts))), (3, .var 30 (.pu (tmc 0 t))), (29, .map 23 4 (mapE (metL (ts.take i.1))))]⟩) (fun i => ts.length - i.1) ⟨0, by simp⟩ ?_ ?_ (fun i => ?_))
      · exact zW
      · exact zW
      refine yR ?_
      refine yI ?_
      refine e_seq ?_
      repeat refine Tri.seq ?_
      refine Tri.cond rfl (fun h3 => ?_) (fun h3 => ?_)
      · skip
        have hi : i.1 < ts.length := by simpa using h3
        have hr1 := hr _ (List.getElem_mem hi)
        have hr2 := met_len (fun x hx => hr x (List.mem_of_mem_take hx)) (ts := ts.take i.1)
        have hdup := nodup_take (l := ts.map (·.1)) (i := i.1) (by simpa using hi)
        rw [List.map_take.symm, List.map_take.symm, List.getElem_map] at hdup
        have hget : mapGet Tryd.prog SS 23 4 (refP ts[i.1].1) (mapE (metL (ts.take i.1))) = some (bv (decide (ts[i.1].1 ∈ (ts.take i.1).map (·.1))), decide (ts[i.1].1 ∈ (ts.take i.1).map (·.1))) := by
          by_cases hm : ts[i.1].1 ∈ (ts.take i.1).map (·.1)
          · rw [mapGet_some hr1 hr2 (by rw [look_met, if_pos hm]), decide_eq_true hm]
          · rw [mapGet_none (z := bv false) (by kernel_rfl) hr1 hr2 (by rw [look_met, if_neg hm]), decide_eq_false hm]
        refine Tri.skip ?_
        repeat refine Tri.seq ?_
        refine Tri.block ?_
        refine yR ?_
        refine s_val (v_index SS (h0 := by omega) (hp := kt_get hi)) ?_
        refine yL ?_
        refine s_alloc SS 10 ?_
        refine yS ?_
        refine e_seqN [10] ?_
        refine yR ?_
        refine yM ?_
        refine yF ?_
        refine yL ?_
        refine s_val (v_lookup SS rfl rfl rfl (VImp.refl _) (mapE_ty _) (sum_cond _ [] ).2.2.1 hget) ?_
        refine e_seq ?_
        repeat refine Tri.seq ?_
        refine Tri.cond rfl (fun h4 => ?_) (fun h4 => ?_)
        · skip
          have hm : ts[i.1].1 ∈ (ts.take i.1).map (·.1) := by simpa using h4
          have hnd : ¬ (ts.map (·.1)).Nodup := fun hn => by
            have h2 : ((ts.take (i.1 + 1)).map (·.1)).Nodup := by rw [List.map_take]; exact hn.sublist (List.take_sublist _ _)
            exact (hdup.1 h2).2 hm
          refine yR ?_
          refine yB ?_
          refine e_seq ?_
          repeat refine Tri.seq ?_
          exact Tri.ret ⟨.inr rfl, ret1 rfl resV_tmp (iv_imp (by simp [stepCheckM, hts40, orE, hz1, dupM, hnd]))⟩
        · skip
          have hm : ts[i.1].1 ∉ (ts.take i.1).map (·.1) := by simpa using h4
          have hnone : lookS ts[i.1].1 (metL (ts.take i.1)) = none := by rw [look_met, if_neg hm]
          have hnext : ((ts.take (i.1 + 1)).map (·.1)).Nodup := hdup.2 ⟨i.2, hm⟩
          refine Tri.skip ?_
          refine yR ?_
          refine yM ?_
          refine yF ?_
          refine yL ?_
          refine step_insert SS (u := bv true) rfl rfl rfl rfl (VImp.refl _) rfl (VImp.refl _) rfl (mapE_ty _) (sum_cond _ [] ).2.2.1 (findE_none hr1 hr2 hnone) (labs := []) (fun l' h => by rw [NoLab.ok] at h; exact h) ?_
          refine e_seq ?_
          refine yR ?_
          refine yI ?_
          refine yM ?_
          refine e_seq ?_
          refine ⟨⟨i.1 + 1, hnext⟩, by show ts.length - (i.1 + 1) < ts.length - i.1; omega, le_of ?_ ?_⟩
          · repeat (first | exact SubE.nil | refine SubE.cons rfl (by first | rfl | (rw [wrap64 (by omega) (by omega)]; rfl) | (simp only [metL_take hi, mapE_append])) ?_)
          · repeat (first | exact SubH.nil | refine SubH.cons rfl (by first | rfl | (rw [wrap64 (by omega) (by omega)]; rfl) | (simp only [metL_take hi, mapE_append])) ?_)
      · skip
        have hnd : (ts.map (·.1)).Nodup := by have := i.2; rwa [List.take_of_length_le (by simp at h3; omega)] at this
        refine Tri.exit ?_
        refine yR ?_
        refine yL ?_
        refine s_val (v_callD (fun _ => check_c t hN 0 0)) ?_
        refine yA ?_
        refine e_seq ?_
        repeat refine Tri.seq ?_
        exact Tri.ret ⟨.inr rfl, ret1 rfl resV_tmp (iv_imp (by simp [stepCheckM, hts40, orE, hz1, dupM, hnd]))⟩
end Go.Proofs.YtkcgkignhpepkaaDoor

/- Patterns of one's own. -/
namespace Go.Proofs.YtkcgkignhpepkaaDoor
open Go Hs
variable {G : List (Nat × TypeId × Pu)}

theorem stepOwnPatternN_c : ∀ (N : Nat) (p : Pat), psize p ≤ N → N < 2^30 → FCallN Tryd.prog G 81 [.pu (patc 0 p)] (fun n => .pu (patc n p)) := by
  intro N
  induction N with
  | zero => intro p h; cases p; simp [psize] at h
  | succ N ih =>
  intro p hp hN
  obtain ⟨k, n, r, ks⟩ := p
  simp only [psize] at hp
  have hlen := length_psizeL ks
  refine FCallN.of_tri tbl 24 Tryd.func81 rfl rfl (fun _ => rfl) fun w0 M ρ0 D0 hM => ?_
  refine yR ?_
  refine s_box SS 1 ?_
  refine s_alloc SS 2 ?_
  refine e_seqN [1, 2] ?_
  refine yR ?_
  refine yF ?_
  refine yK ?_
  refine yA ?_
  refine e_seq ?_
  refine yR ?_
  refine yF ?_
  refine yS ?_
  refine e_seq ?_
  refine yR ?_
  refine yM ?_
  refine yC ?_
  refine yJ ?_
  refine e_seq ?_
  refine Tri.ghost (Ghost.wk (env' := [(1, .ptr 1 [] 26), (2, .ptr 2 [] 26), (9, .pu (.sl 0 26 (patsc 0 ks))), (10, iv .i64 (patsc 0 ks).length), (11, iv .i64 0)])
    (heap' := [(1, .var 26 (.agg 26 [iv .i64 k, iv .i64 n, .pu (refP r), .ow w0.heap.size 26 []])), (2, .var 26 (.agg 26 [iv .i64 0, iv .i64 0, .pu (refP Z32), .nilc]))])
    (.cons rfl .refl (.cons rfl .refl (.cons rfl .refl (.cons rfl .refl (.cons rfl .refl .nil))))) (.cons rfl (.var (.agg (.cons .refl (.cons .refl (.cons .refl (.cons .nilcOw .nil)))))) (.cons rfl .refl .nil))) ?_
  repeat refine Tri.seq ?_
  refine Tri.block (Tri.loop (σ := Nat) (fun i => ⟨[(1, .ptr 1 [] 26), (2, .ptr 2 [] 26), (9, .pu (.sl 0 26 (patsc 0 ks))), (10, iv .i64 (patsc 0 ks).length), (11, iv .i64 i)],
    [(1, .var 26 (.agg 26 [iv .i64 k, iv .i64 n, .pu (refP r), .ow w0.heap.size 26 (patsc w0.heap.size (ks.take i))])), (2, .var 26 (.agg 26 [iv .i64 0, iv .i64 0, .pu (refP Z32), .nilc]))]⟩) (fun i => ks.length - i) 0 ?_ (fun i => ?_))
  · exact le_of (.cons rfl rfl (.cons rfl rfl (.cons rfl rfl (.cons rfl rfl (.cons rfl rfl .nil))))) (.cons rfl rfl (.cons rfl rfl .nil))
  refine yR ?_
  refine yI ?_
  refine e_seq ?_
  refine Tri.seq (Tri.cond rfl (fun hb => Tri.skip ?_) (fun hb => Tri.exit ?_))
  · have hi : i < ks.length := by simpa [pats_eq] using hb
    refine Tri.seq (Tri.block ?_)
    refine yR ?_
    refine s_val (v_index SS (h0 := by omega) (hp := pats_get hi)) ?_
    refine yL ?_
    refine s_alloc SS 5 ?_
    refine yS ?_
    refine e_seqN [5] ?_
    refine yR ?_
    refine yF ?_
    refine yK ?_
    refine yL ?_
    refine s_val (v_callN (fun m n h => (patc_low h _).imp) (fun _ => ih ks[i] (by have := psizeL_get hi; omega) (by omega))) ?_
    refine yZ ?_
    refine s_app2 1 [3] ?_ ?_
    · simp [pats_eq]; omega
    refine yF ?_
    refine yW ?_
    refine e_draw ?_
    refine yR ?_
    refine yI ?_
    refine yM ?_
    refine e_seq ?_
    refine ⟨i + 1, by omega, le_of (.cons rfl rfl (.cons rfl rfl (.cons rfl rfl (.cons rfl rfl (.cons rfl ?_ .nil))))) (.cons rfl ?_ (.cons rfl rfl .nil))⟩
    · rw [wrap64 (by omega) (by omega)]
      rfl
    · have : patsc w0.heap.size (ks.take (i + 1)) = patsc w0.heap.size (ks.take i) ++ [patc w0.heap.size ks[i]] := by
        rw [pats_eq, pats_eq, List.take_succ_eq_append_getElem hi, List.map_append]; rfl
      rw [this]
      rfl
  have hi : ks.length ≤ i := by simpa [pats_eq] using hb
  refine yR ?_
  refine yL ?_
  refine yS ?_
  refine e_seq ?_
  refine Tri.ret ⟨.inr rfl, ret1 rfl resV_cell (ToPu.imp ?_)⟩
  rw [List.take_of_length_le hi]
  repeat constructor
end Go.Proofs.YtkcgkignhpepkaaDoor

/- Values. -/
namespace Go.Proofs.YtkcgkignhpepkaaDoor
open Go Hs
variable {G : List (Nat × TypeId × Pu)}

theorem anyS_pure {α : Type} (φ : α → Bool) (c : Int) : ∀ l : List α, anyS (fun c a => (φ a, c)) c l = (l.any φ, c)
  | [] => rfl
  | a :: l => by
    have ih := anyS_pure φ c l
    simp only [anyS, List.any_cons]
    cases φ a
    · simpa using ih
    · rfl

/-- A function without memory. -/
abbrev fV (f : FuncId) : PV := .pu (.leaf (.func (.func f) #[] #[]))

theorem every1_c (f : FuncId) (he : entersB Tryd.prog f = true) (x : Tm) (b : Bool) (h : FCall Tryd.prog G f [.pu (tmc 0 x)] (bv b)) :
    HCall Tryd.prog G 89 [.pu (tmc 0 x), .ptr 3 [] 31] [(3, .var 31 (fV f))] [] (bv (!b)) [] [] := by
  refine HCall.of_triD tbl 8 [3] Tryd.func89 rfl rfl rfl fun w0 M ρ0 D0 => ?_
  refine yR ?_
  refine s_box SS 31 ?_
  refine yB ?_
  refine e_seqN [31] ?_
  refine yR ?_
  refine yL ?_
  refine yL ?_
  refine s_val (v_callO (fun _ => h) (he := he)) ?_
  refine yQ ?_
  refine yA ?_
  refine e_seq ?_
  repeat refine Tri.seq ?_
  exact Tri.ret ⟨.inr rfl, ret1 rfl resV_tmp (VImp.refl _), by repeat (first | exact OutH.nil | refine OutH.cons rfl (by first | exact ObImp.refl _ | exact OWk.imp (by repeat constructor)) ?_)⟩

theorem every_c (f : FuncId) (he : entersB Tryd.prog f = true) (φ : Tm → Bool) (ks : List Tm) (hl : ks.length < 2^60) (h : ∀ x ∈ ks, FCall Tryd.prog G f [.pu (tmc 0 x)] (bv (φ x))) :
    FCall Tryd.prog G 66 [.pu (.sl 0 30 (tmsc 0 ks)), fV f] (bv (ks.all φ)) := by
  have hA : ∃ r : Option Nat, r.isSome = !(ks.all φ) ∧ AnyC Tryd.prog G 89 [] [.ptr 3 [] 31] [(3, .var 31 (fV f))] (tmsc 0 ks) [] r [] := by
    have := AnyC.state (P := Tryd.prog) (G := G) (f := 89) (first := []) (captured := [.ptr 3 [] 31]) (HR := [(3, .var 31 (fV f))]) (tmc 0) (fun c a => (!φ a, c)) (fun _ => []) (fun _ => True) (fun _ => rfl) ks (fun a ha c _ => ⟨every1_c f he a (φ a) (h a ha), fun _ => trivial⟩) 0 trivial
    rw [anyS_pure] at this
    obtain ⟨r, h1, h2⟩ := this
    refine ⟨r, by rw [h1, List.not_all_eq_any_not], ?_⟩
    rw [tms_eq]; exact h2
  obtain ⟨r, hr, hA⟩ := hA
  refine FCall.of_tri tbl 9 Tryd.func66 rfl rfl rfl fun w0 M ρ0 D0 => ?_
  refine yR ?_
  refine s_box SS 3 ?_
  refine yB ?_
  refine e_seqN [3] ?_
  refine yR ?_
  refine yM ?_
  refine s_val (v_mkFnD SS) ?_
  refine s_call (conTm_d (lo := 0) (.fn (.func 89) [] [.ptr 3 [] 31]) (by rw [tms_length]; omega) hA) ?_
  refine yQ ?_
  refine yA ?_
  refine e_seq ?_
  repeat refine Tri.seq ?_
  exact Tri.ret ⟨.inr rfl, ret1 rfl resV_tmp (bv_imp (by rw [hr]; simp))⟩

mutual
def valM : Tm → Bool
  | .mk k _ _ ks _ => k == 2 || k == 3 || (k == 8 && valL ks)
def valL : List Tm → Bool
  | [] => true
  | t :: ts => valM t && valL ts
end
theorem valL_eq : ∀ ks, valL ks = ks.all valM
  | [] => rfl
  | t :: ts => by simp [valL, valL_eq ts]

theorem value_c : ∀ (N : Nat) (t : Tm), tsize t ≤ N → N < 2^40 → FCall Tryd.prog G 56 [.pu (tmc 0 t)] (bv (valM t)) := by
  intro N
  induction N with
  | zero => intro t h; have := tsize_pos t; omega
  | succ N ih =>
  intro t hp hN
  obtain ⟨k, n, r, ks, cs⟩ := t
  simp only [tsize] at hp
  have hlen := length_tsizeL ks
  refine FCall.of_tri tbl 21 Tryd.func56 rfl rfl rfl fun w0 M ρ0 D0 => ?_
  refine yR ?_
  refine s_box SS 1 ?_
  refine yB ?_
  refine e_seqN [1] ?_
  refine yR ?_
  refine yF ?_
  refine yL ?_
  refine yI ?_
  refine yM ?_
  refine xF ?_
  refine xL ?_
  refine xI ?_
  refine yO ?_
  refine yM ?_
  refine xF ?_
  refine xL ?_
  refine xI ?_
  refine xM ?_
  refine xF ?_
  refine xL ?_
  refine s_gg zG (v_callD (fun _ => every_c 56 (by kernel_rfl) valM ks (by omega) (fun x hx => ih x (by have := tsize_mem hx; omega) (by omega)))) ?_
  refine xN ?_
  refine yO ?_
  refine yA ?_
  refine e_seq ?_
  repeat refine Tri.seq ?_
  exact Tri.ret ⟨.inr rfl, ret1 rfl resV_tmp (bv_imp (by simp only [valM, valL_eq]))⟩
end Go.Proofs.YtkcgkignhpepkaaDoor

/- Values put for variables. -/
namespace Go.Proofs.YtkcgkignhpepkaaDoor
open Go Hs
variable {G : List (Nat × TypeId × Pu)}

mutual
def putM (vs : List Tm) (d : Int) : Tm → Tm
  | .mk k n r ks cs =>
    if hC : k = 1 ∧ 0 ≤ IntKind.wrap .i64 (n - d) ∧ 0 < vs.length then
      if h : IntKind.wrap .i64 (n - d) < vs.length then vs[vs.length - 1 - (IntKind.wrap .i64 (n - d)).toNat]'(by omega)
      else .mk k (IntKind.wrap .i64 (n - vs.length)) r (putK vs d k 0 ks) (putC vs d cs)
    else .mk k n r (putK vs d k 0 ks) (putC vs d cs)
def putK (vs : List Tm) (d k : Int) (i : Nat) : List Tm → List Tm
  | [] => []
  | t :: ts => putM vs (d + moreM k i) t :: putK vs d k (i + 1) ts
def putC (vs : List Tm) (d : Int) : List Cs → List Cs
  | [] => []
  | c :: cs => putS vs d c :: putC vs d cs
def putS (vs : List Tm) (d : Int) : Cs → Cs
  | .mk q t => .mk q (putM vs (d + bindsM q) t)
end
theorem putK_len (vs : List Tm) (d k : Int) : ∀ (ks : List Tm) (i : Nat), (putK vs d k i ks).length = ks.length
  | [], _ => rfl
  | t :: ts, i => by simp [putK, putK_len vs d k ts]
theorem putK_get (vs : List Tm) (d k : Int) : ∀ (ks : List Tm) (i j : Nat) (h : j < ks.length), (putK vs d k i ks)[j]'(by rw [putK_len]; exact h) = putM vs (d + moreM k ((i + j : Nat) : Int)) ks[j]
  | t :: ts, i, 0, _ => by simp [putK]
  | t :: ts, i, j + 1, h => by
    have := putK_get vs d k ts (i + 1) j (by simpa using h)
    simp only [putK, List.getElem_cons_succ, this]
    rw [show i + 1 + j = i + (j + 1) by omega]
theorem putC_len (vs : List Tm) (d : Int) : ∀ (cs : List Cs), (putC vs d cs).length = cs.length
  | [] => rfl
  | t :: ts => by simp [putC, putC_len vs d ts]
theorem putC_get (vs : List Tm) (d : Int) : ∀ (cs : List Cs) (j : Nat) (h : j < cs.length), (putC vs d cs)[j]'(by rw [putC_len]; exact h) = putS vs d cs[j]
  | t :: ts, 0, _ => by simp [putC]
  | t :: ts, j + 1, h => by simpa [putC] using putC_get vs d ts j (by simpa using h)

/-- A row on its way: so many elements are new. -/
def rowM (lo : Nat) (out ks : List Tm) (i : Nat) : List PV := ((out.take i).map (tmc lo) ++ (ks.drop i).map (tmc 0)).map .pu
theorem rowM_zero (lo : Nat) (out ks : List Tm) : rowM lo out ks 0 = (tmsc 0 ks).map .pu := by simp [rowM, tms_eq]
theorem rowM_all (lo : Nat) (out ks : List Tm) (h : out.length = ks.length) {i : Nat} (hi : ks.length ≤ i) : rowM lo out ks i = (tmsc lo out).map .pu := by
  simp [rowM, tms_eq, List.take_of_length_le (show out.length ≤ i by omega), List.drop_of_length_le hi]
theorem rowM_get (lo : Nat) (out ks : List Tm) (h : out.length = ks.length) {i : Nat} (hi : i < ks.length) : (rowM lo out ks i)[i]? = some (.pu (tmc 0 ks[i])) := by
  unfold rowM
  rw [List.getElem?_map, List.getElem?_append_right (by simp; omega)]
  simp [List.length_take, Nat.min_eq_left (show i ≤ out.length by omega), hi]
theorem rowM_set (lo : Nat) (out ks : List Tm) (h : out.length = ks.length) {i : Nat} (hi : i < ks.length) : (rowM lo out ks i).set i (.pu (tmc lo (out[i]'(by omega)))) = rowM lo out ks (i + 1) := by
  unfold rowM
  have e1 : ks.drop i = ks[i] :: ks.drop (i + 1) := List.drop_eq_getElem_cons hi
  rw [List.take_succ_eq_append_getElem (show i < out.length by omega), e1]
  simp only [List.map_append, List.map_cons, List.map_nil, List.append_assoc, List.cons_append, List.nil_append, List.map_take, List.map_drop]
  rw [List.set_append_right _ _ (by simp; omega)]
  simp [List.length_take, Nat.min_eq_left (show i ≤ out.length by omega)]

instance {lo : Nat} {out ks : List Tm} {i : Nat} : NoLab (.row 30 (rowM lo out ks i)) := NoLab.row (f := id)
theorem more_b (k : Int) (i : Int) : 0 ≤ moreM k i ∧ moreM k i ≤ 2 := by unfold moreM; split <;> (try split) <;> simp

set_option maxHeartbeats 1000000 in
theorem put_c' (vs : List Tm) (hvl : vs.length < 2^30) (hvs : ∀ v ∈ vs, FCallN Tryd.prog G 62 [.pu (tmc 0 v), iv .i64 0, .pu (.sl 0 30 [])] (fun m => .pu (tmc m v))) : ∀ (N : Nat) (t : Tm), tsize t ≤ N → N < 2^30 → ∀ d : Int, 0 ≤ d → d + 2 * tsize t ≤ 2^42 →
    FCallN Tryd.prog G 62 [.pu (tmc 0 t), iv .i64 d, .pu (.sl 0 30 (tmsc 0 vs))] (fun m => .pu (tmc m (putM vs d t))) := by
  intro N
  induction N with
  | zero => intro t h; have := tsize_pos t; omega
  | succ N ih =>
  intro t hp hN d hd0 hd1
  obtain ⟨k, n, r, ks, cs⟩ := t
  simp only [tsize] at hp hd1
  have hlen := length_tsizeL ks
  have hlenc := length_csizeL cs
  obtain ⟨out, hout⟩ : ∃ out, out = putK vs d k 0 ks := ⟨_, rfl⟩
  have houtl : out.length = ks.length := by rw [hout, putK_len]
  refine FCallN.of_tri tbl 109 Tryd.func62 rfl rfl (fun _ => rfl) fun w0 M ρ0 D0 hM => ?_
  refine yR ?_
  refine s_box SS 3 ?_
  refine s_alloc SS 6 ?_
  refine e_seqN [3, 6] ?_
  refine yR ?_
  refine yF ?_
  refine yL ?_
  refine yM ?_
  refine yI ?_
  refine yA ?_
  refine e_seq ?_
  refine yR ?_
  refine yF ?_
  refine yL ?_
  refine yI ?_
  refine yM ?_
  refine xM ?_
  refine xI ?_
  refine yN ?_
  refine yM ?_
  refine xM ?_
  refine xC ?_
  refine xI ?_
  refine yN ?_
  refine e_seq ?_
  repeat refine Tri.seq ?_
  refine Tri.cutW (σ := {n' : Int // putM vs d (.mk k n r ks cs) = .mk k n' r (putK vs d k 0 ks) (putC vs d cs)}) (fun n' => ⟨[(1, iv .i64 d), (2, .pu (.sl 0 30 (tmsc 0 vs))), (3, .ptr 3 [] 30), (6, .ptr 6 [] 30)], [(3, .var 30 (.pu (tmc 0 (.mk k n'.1 r ks cs)))), (6, .var 30 (.agg 30 [iv .i64 0, iv .i64 0, .pu (refP Z32), .nilc, .nilc]))]⟩) ?_ (fun n' => ?_)
  · skip
    repeat refine Tri.seq ?_
    refine Tri.cond rfl (fun h0 => ?_) (fun h0 => ?_)
    · skip
      have hC : k = 1 ∧ 0 ≤ IntKind.wrap .i64 (n - d) ∧ 0 < vs.length := by rw [tms_length] at h0; simp at h0; omega
      obtain ⟨m, hm⟩ : ∃ m, m = IntKind.wrap .i64 (n - d) := ⟨_, rfl⟩
      rw [← hm] at hC
      refine yR ?_
      refine yM ?_
      refine yM ?_
      refine yC ?_
      refine yI ?_
      refine e_seq ?_
      repeat refine Tri.seq ?_
      refine Tri.cond rfl (fun h1 => ?_) (fun h1 => ?_)
      · skip
        have h1' : IntKind.wrap .i64 (n - d) < vs.length := by rw [tms_length] at h1; simpa using h1
        rw [← hm] at h1'
        have hj : vs.length - 1 - m.toNat < vs.length := by omega
        have hidx : IntKind.wrap .i64 (IntKind.wrap .i64 (((tmsc 0 vs).length : Int) - 1) - IntKind.wrap .i64 (n - d)) = ((vs.length - 1 - m.toNat : Nat) : Int) := by
          rw [← hm, tms_length, wrap64 (n := (vs.length : Int) - 1) (by omega) (by omega), wrap64 (by omega) (by omega)]; omega
        have hput : putM vs d (.mk k n r ks cs) = vs[vs.length - 1 - m.toNat] := by
          simp only [putM, ← hm]; rw [dif_pos hC, dif_pos h1']
        refine yR ?_
        refine yM ?_
        refine yM ?_
        refine yC ?_
        refine yI ?_
        refine yM ?_
        refine yI ?_
        refine s_val (v_index SS (h0 := by rw [hidx]; omega) (hp := by rw [hidx]; exact tms_get hj)) ?_
        refine yL ?_
        refine s_val (v_callN (fun m n h => (tmc_low h _).imp) (fun _ => hvs _ (List.getElem_mem hj))) ?_
        refine yS ?_
        refine e_seq ?_
        repeat refine Tri.seq ?_
        exact Tri.ret ⟨.inr rfl, ret1 rfl resV_cell (VImp.of_eq (by rw [hput]))⟩
      · skip
        have h1' : ¬ IntKind.wrap .i64 (n - d) < vs.length := by rw [tms_length] at h1; simpa using h1
        have hput : putM vs d (.mk k n r ks cs) = .mk k (IntKind.wrap .i64 (n - (tmsc 0 vs).length)) r (putK vs d k 0 ks) (putC vs d cs) := by
          rw [hm] at hC
          simp only [putM]; rw [dif_pos hC, dif_neg h1', tms_length]
        refine Tri.skip ?_
        refine yR ?_
        refine yF ?_
        refine yL ?_
        refine yM ?_
        refine yC ?_
        refine yI ?_
        refine yF ?_
        refine yS ?_
        refine e_seq ?_
        refine ⟨⟨_, hput⟩, ?_, ?_⟩
        · exact zW
        · exact zW
    · skip
      have hC : ¬ (k = 1 ∧ 0 ≤ IntKind.wrap .i64 (n - d) ∧ 0 < vs.length) := fun hC => by
        obtain ⟨a, b, c⟩ := hC
        have c' : (0 : Int) < vs.length := by omega
        rw [tms_length] at h0
        simp [a, b, c'] at h0
        try (rw [h0] at c; simp at c)
      have hput : putM vs d (.mk k n r ks cs) = .mk k n r (putK vs d k 0 ks) (putC vs d cs) := by
        simp only [putM]; rw [dif_neg hC]
      refine Tri.skip ?_
      refine ⟨⟨_, hput⟩, ?_, ?_⟩
      · exact zW
      · exact zW
  · skip
    obtain ⟨n', hput⟩ := n'
    refine yR ?_
    refine yF ?_
    refine yK ?_
    refine yF ?_
    refine yK ?_
    refine yA ?_
    refine yA ?_
    refine e_draw ?_
    refine yR ?_
    refine yM ?_
    refine yC ?_
    refine s_make SS (n := (tmsc 0 ks).length) 55 (by rw [tms_length]; omega) (by rw [tms_length]; omega) ?_
    refine yF ?_
    refine yW ?_
    refine yF ?_
    refine yS ?_
    refine e_seqN [55] ?_
    refine yR ?_
    refine yF ?_
    refine yK ?_
    refine yM ?_
    refine s_copy SS ?_
    refine e_seq ?_
    refine yR ?_
    refine yM ?_
    refine yC ?_
    refine yJ ?_
    refine e_seq ?_
    rw [← rowM_zero w0.heap.size out ks]
    repeat refine Tri.seq ?_
    refine Tri.block (Tri.loopW (σ := Nat) (fun i => ⟨[(1, iv .i64 d), (2, .pu (.sl 0 30 (tmsc 0 vs))), (3, .ptr 3 [] 30), (6, .ptr 6 [] 30), (9, .pu (.sl 0 34 (cssc 0 cs))), (62, .pu (.sl 0 30 (tmsc 0 ks))), (63, iv .i64 (tmsc 0 ks).length), (64, iv .i64 i)], [(3, .var 30 (.agg 30 [iv .i64 k, iv .i64 n', .pu (refP r), .arr 55 30 0 (tmsc 0 ks).length, .nilc])), (6, .var 30 (.agg 30 [iv .i64 0, iv .i64 0, .pu (refP Z32), .nilc, .nilc])), (55, .row 30 (rowM w0.heap.size out ks i))]⟩) (fun i => ks.length - i) 0 ?_ ?_ (fun i => ?_))
    · exact zW
    · exact zW
    refine yR ?_
    refine yI ?_
    refine e_seq ?_
    repeat refine Tri.seq ?_
    refine Tri.cond rfl (fun h2 => ?_) (fun h2 => ?_)
    · skip
      have hlt : i < (tmsc 0 ks).length := by simpa using h2
      have hi : i < ks.length := by rwa [tms_length] at hlt
      have hmo := more_b k i
      have hsz := tsize_mem (List.getElem_mem hi)
      have hrow := rowM_set w0.heap.size out ks houtl hi
      have hel : out[i]'(by omega) = putM vs (d + moreM k i) ks[i] := by
        have := putK_get vs d k ks 0 i hi
        rw [Nat.zero_add] at this
        rw [← this]; congr 1
      rw [hel] at hrow
      refine Tri.skip ?_
      repeat refine Tri.seq ?_
      refine Tri.block ?_
      refine yR ?_
      refine yM ?_
      refine s_val (v_index SS (h0 := by omega) (hp := tms_get hi)) ?_
      refine yL ?_
      refine s_alloc SS 11 ?_
      refine yA ?_
      refine yS ?_
      refine e_seqN [11] ?_
      refine yR ?_
      refine yF ?_
      refine yK ?_
      refine yM ?_
      refine yL ?_
      refine yM ?_
      refine yF ?_
      refine yL ?_
      refine yM ?_
      refine s_val (v_callD (fun _ => stepMore_c k i)) ?_
      refine yI ?_
      refine yM ?_
      refine s_val (v_callN (fun m n h => (tmc_low h _).imp) (fun _ => ih ks[i] (by omega) (by omega) (d + moreM k i) (by omega) (by omega))) ?_
      refine s_val (v_ixa SS) ?_
      refine s_storeR SS (rowM_get w0.heap.size out ks houtl hi) ?_
      refine e_draw ?_
      refine yR ?_
      refine yI ?_
      refine yM ?_
      refine e_seq ?_
      refine ⟨i + 1, by omega, le_of ?_ ?_⟩
      · repeat (first | exact SubE.nil | refine SubE.cons rfl (by first | rfl | (rw [wrap64 (by omega) (by omega)]; rfl) | (simp only [← hrow])) ?_)
      · repeat (first | exact SubH.nil | refine SubH.cons rfl (by first | rfl | (rw [wrap64 (by omega) (by omega)]; rfl) | (simp only [← hrow])) ?_)
    · skip
      have hi : ks.length ≤ i := by rw [tms_length] at h2; simpa using h2
      rw [rowM_all _ _ _ houtl hi]
      refine Tri.exit ?_
      refine Tri.freeze (lo := w0.heap.size) (l := 55) (E := 30) (ps := tmsc w0.heap.size out) (env' := [(1, iv .i64 d), (2, .pu (.sl 0 30 (tmsc 0 vs))), (3, .ptr 3 [] 30), (6, .ptr 6 [] 30), (9, .pu (.sl 0 34 (cssc 0 cs)))]) (heap' := [(3, .var 30 (.agg 30 [iv .i64 k, iv .i64 n', .pu (refP r), .pu (.sl w0.heap.size 30 (tmsc w0.heap.size out)), .nilc])), (6, .var 30 (.agg 30 [iv .i64 0, iv .i64 0, .pu (refP Z32), .nilc, .nilc]))]) rfl (.inr ⟨Nat.le_refl _, hM⟩) ?_ (h2 := .cons rfl rfl (by simp [frzOb, frzV, frzL, tms_length, houtl]) (.cons rfl rfl rfl .nil))
      refine yR ?_
      refine yM ?_
      refine yC ?_
      refine yJ ?_
      refine e_seq ?_
      repeat refine Tri.seq ?_
      refine Tri.block (Tri.loopW (σ := Nat) (fun i => ⟨[(1, iv .i64 d), (2, .pu (.sl 0 30 (tmsc 0 vs))), (3, .ptr 3 [] 30), (6, .ptr 6 [] 30), (83, .pu (.sl 0 34 (cssc 0 cs))), (84, iv .i64 (cssc 0 cs).length), (85, iv .i64 i)], [(3, .var 30 (.agg 30 [iv .i64 k, iv .i64 n', .pu (refP r), .pu (.sl w0.heap.size 30 (tmsc w0.heap.size out)), .ow w0.heap.size 34 (cssc w0.heap.size ((putC vs d cs).take i))])), (6, .var 30 (.agg 30 [iv .i64 0, iv .i64 0, .pu (refP Z32), .nilc, .nilc]))]⟩) (fun i => cs.length - i) 0 ?_ ?_ (fun i => ?_))
      · exact zW
      · exact zW
      refine yR ?_
      refine yI ?_
      refine e_seq ?_
      repeat refine Tri.seq ?_
      refine Tri.cond rfl (fun h3 => ?_) (fun h3 => ?_)
      · skip
        have hi : i < cs.length := by rw [css_length] at h3; simpa using h3
        have hsz := csize_mem (List.getElem_mem hi)
        have hget := css_get (lo := 0) hi
        have hpc := putC_get vs d cs i hi
        generalize hci : cs[i] = ci at hget hsz hpc
        obtain ⟨q, b⟩ := ci
        simp only [csize] at hsz
        have hbb := binds_bound q
        have hcs : cssc w0.heap.size ((putC vs d cs).take (i + 1)) = cssc w0.heap.size ((putC vs d cs).take i) ++ [csec w0.heap.size (.mk q (putM vs (d + bindsM q) b))] := by
          rw [css_eq, css_eq, List.take_succ_eq_append_getElem (by rw [putC_len]; exact hi), List.map_append, hpc]; rfl
        refine Tri.skip ?_
        repeat refine Tri.seq ?_
        refine Tri.block ?_
        refine yR ?_
        refine s_val (v_index SS (h0 := by omega) (hp := hget)) ?_
        refine yL ?_
        refine s_alloc SS 13 ?_
        refine yS ?_
        refine e_seqN [13] ?_
        refine yR ?_
        refine yF ?_
        refine yK ?_
        refine yF ?_
        refine yL ?_
        refine s_val (v_callN (fun m n h => (patc_low h _).imp) (fun _ => stepOwnPatternN_c _ q (Nat.le_refl _) (by omega))) ?_
        refine yF ?_
        refine yL ?_
        refine yM ?_
        refine yF ?_
        refine yL ?_
        refine s_val (v_callD (fun _ => stepBinds_c _ q (Nat.le_refl _) (by omega))) ?_
        refine yI ?_
        refine yM ?_
        refine s_val (v_callN (fun m n h => (tmc_low h _).imp) (fun _ => ih b (by omega) (by omega) (d + bindsM q) (by omega) (by omega))) ?_
        refine yP ?_
        refine yZ ?_
        refine s_app2 3 [4] ?_ ?_
        · simp [css_eq, putC_len]; omega
        refine yF ?_
        refine yW ?_
        refine e_draw ?_
        refine yR ?_
        refine yI ?_
        refine yM ?_
        refine e_seq ?_
        refine ⟨i + 1, by omega, le_of ?_ ?_⟩
        · repeat (first | exact SubE.nil | refine SubE.cons rfl (by first | rfl | (rw [wrap64 (by omega) (by omega)]; rfl) | (rw [hcs]; rfl)) ?_)
        · repeat (first | exact SubH.nil | refine SubH.cons rfl (by first | rfl | (rw [wrap64 (by omega) (by omega)]; rfl) | (rw [hcs]; rfl)) ?_)
      · skip
        have hi : cs.length ≤ i := by rw [css_length] at h3; simpa using h3
        rw [List.take_of_length_le (by rw [putC_len]; exact hi)]
        refine Tri.exit ?_
        refine yR ?_
        refine yL ?_
        refine yS ?_
        refine e_seq ?_
        repeat refine Tri.seq ?_
        exact Tri.ret ⟨.inr rfl, ret1 rfl resV_cell ((by rw [hput, ← hout]; exact ToPu.imp (by repeat constructor)))⟩

mutual
theorem putM_nil (d : Int) : ∀ t : Tm, putM [] d t = t
  | .mk k n r ks cs => by
    simp only [putM, List.length_nil, Nat.lt_irrefl, and_false, dite_false]
    rw [putK_nil d k ks 0, putC_nil d cs]
theorem putK_nil (d k : Int) : ∀ (ks : List Tm) (i : Nat), putK [] d k i ks = ks
  | [], _ => rfl
  | t :: ts, i => by simp only [putK]; rw [putM_nil _ t, putK_nil d k ts (i + 1)]
theorem putC_nil (d : Int) : ∀ (cs : List Cs), putC [] d cs = cs
  | [] => rfl
  | c :: cs => by simp only [putC]; rw [putS_nil d c, putC_nil d cs]
theorem putS_nil (d : Int) : ∀ (c : Cs), putS [] d c = c
  | .mk q t => by simp only [putS]; rw [putM_nil _ t]
end
theorem put0_c (t : Tm) (h : tsize t < 2^30) : FCallN Tryd.prog G 62 [.pu (tmc 0 t), iv .i64 0, .pu (.sl 0 30 [])] (fun m => .pu (tmc m t)) := by
  have := put_c' (G := G) [] (by simp) (fun v hv => by cases hv) _ t (Nat.le_refl _) h 0 (by omega) (by omega)
  rwa [putM_nil] at this
theorem put_c (vs : List Tm) (hvl : vs.length < 2^30) (hvs : ∀ v ∈ vs, tsize v < 2^30) (t : Tm) (h : tsize t < 2^30) : FCallN Tryd.prog G 62 [.pu (tmc 0 t), iv .i64 0, .pu (.sl 0 30 (tmsc 0 vs))] (fun m => .pu (tmc m (putM vs 0 t))) :=
  put_c' vs hvl (fun v hv => put0_c v (hvs v hv)) _ t (Nat.le_refl _) h 0 (by omega) (by omega)

theorem own_c (t : Tm) (h : tsize t < 2^30) : FCallN Tryd.prog G 39 [.pu (tmc 0 t)] (fun m => .pu (tmc m t)) := by
  refine FCallN.of_tri tbl 5 Tryd.func39 rfl rfl (fun _ => rfl) fun w0 M ρ0 D0 hM => ?_
  refine yR ?_
  refine s_box SS 1 ?_
  refine s_alloc SS 2 ?_
  refine e_seqN [1, 2] ?_
  refine yR ?_
  refine yL ?_
  refine s_val (v_callN (fun m n h => (tmc_low h _).imp) (fun _ => put0_c t h)) ?_
  refine yS ?_
  refine e_seq ?_
  repeat refine Tri.seq ?_
  exact Tri.ret ⟨.inr rfl, ret1 rfl resV_cell (ToPu.imp (by repeat constructor))⟩
end Go.Proofs.YtkcgkignhpepkaaDoor

/- Patterns and terms. -/
namespace Go.Proofs.YtkcgkignhpepkaaDoor
open Go Hs
variable {G : List (Nat × TypeId × Pu)}

def Tm.kind : Tm → Int
  | .mk k _ _ _ _ => k
def Tm.num : Tm → Int
  | .mk _ n _ _ _ => n
def Tm.ref : Tm → List Int
  | .mk _ _ r _ _ => r
def Tm.kids : Tm → List Tm
  | .mk _ _ _ ks _ => ks
def Tm.cases : Tm → List Cs
  | .mk _ _ _ _ cs => cs
def fitAdd (a b : List Tm × Bool) : List Tm × Bool := if a.2 && b.2 then (a.1 ++ b.1, true) else ([], false)
mutual
def fitsM : Pat → Tm → List Tm × Bool
  | .mk k n r ks, v => if k = 1 then ([v], true) else if k = 2 then ([], v.kind == 2 && v.num == n)
    else if k = 3 then (if v.kind != 8 || !(v.ref == r) || v.num != n || ((v.kids.length : Int) != ks.length) then ([], false) else fitsL ks v.kids) else ([], false)
def fitsL : List Pat → List Tm → List Tm × Bool
  | [], _ => ([], true)
  | _ :: _, [] => ([], false)
  | p :: ps, v :: vs => fitAdd (fitsM p v) (fitsL ps vs)
end
mutual
theorem fits_b : ∀ (p : Pat) (v : Tm), (fitsM p v).1.length ≤ tsize v
  | .mk k n r ks, v => by
    have hv := tsize_pos v
    simp only [fitsM]
    split
    · simp; omega
    · split
      · simp
      · split
        · split
          · simp
          · have := fitsL_b ks v.kids
            obtain ⟨k', n', r', ks', cs'⟩ := v
            simp only [Tm.kids, tsize] at this ⊢
            omega
        · simp
theorem fitsL_b : ∀ (ps : List Pat) (vs : List Tm), (fitsL ps vs).1.length ≤ tsizeL vs
  | [], vs => by simp [fitsL]
  | _ :: _, [] => by simp [fitsL]
  | p :: ps, v :: vs => by
    have h1 := fits_b p v
    have h2 := fitsL_b ps vs
    simp only [fitsL, fitAdd, tsizeL]
    split
    · simp; omega
    · simp
end
theorem fitsL_take : ∀ {ps : List Pat} {vs : List Tm} {i : Nat} (h : i < ps.length) (h2 : i < vs.length), fitsL (ps.take (i + 1)) (vs.take (i + 1)) = fitAdd (fitsL (ps.take i) (vs.take i)) (fitsM ps[i] vs[i])
  | p :: ps, v :: vs, 0, _, _ => by
    simp only [List.take_zero, List.take_succ_cons, fitsL, List.getElem_cons_zero]
    rcases fitsM p v with ⟨l, b⟩
    cases b <;> simp [fitAdd]
  | p :: ps, v :: vs, i + 1, h, h2 => by
    have h' : i < ps.length := by simpa using h
    have h2' : i < vs.length := by simpa using h2
    have ih := fitsL_take (ps := ps) (vs := vs) (i := i) h' h2'
    simp only [List.take_succ_cons, fitsL, List.getElem_cons_succ, ih]
    rcases fitsM p v with ⟨l, b⟩
    rcases fitsL (ps.take i) (vs.take i) with ⟨l2, b2⟩
    rcases fitsM ps[i] vs[i] with ⟨l3, b3⟩
    cases b <;> cases b2 <;> cases b3 <;> simp [fitAdd]
theorem fitsL_stop : ∀ {ps : List Pat} {vs : List Tm} {i : Nat}, (fitsL (ps.take i) (vs.take i)).2 = false → fitsL ps vs = ([], false)
  | [], vs, i, h => by simp [fitsL] at h
  | p :: ps, vs, 0, h => by simp [fitsL] at h
  | p :: ps, [], i + 1, h => by simp [fitsL]
  | p :: ps, v :: vs, i + 1, h => by
    simp only [List.take_succ_cons, fitsL] at h ⊢
    rcases hpv : fitsM p v with ⟨l, b⟩
    rw [hpv] at h
    cases b
    · simp [fitAdd]
    · have : (fitsL (ps.take i) (vs.take i)).2 = false := by
        rcases hq : fitsL (ps.take i) (vs.take i) with ⟨l2, b2⟩
        cases b2
        · rfl
        · rw [hq] at h; revert h; simp only [fitAdd]; split <;> simp_all
      rw [fitsL_stop this]
      simp [fitAdd]

abbrev fitV (m : Nat) (x : List Tm × Bool) : PV := .tup [.pu (.sl m 30 (tmsc m x.1)), bv x.2]
theorem fitV_low {P : Program} {m n : Nat} (h : n ≤ m) (x : List Tm × Bool) : VImp P (fitV m x) (fitV n x) := VImps.tup (.cons (Low.imp (.sl h (tmsc_low h _))) (.cons (VImp.refl _) .nil)) (notTup rfl)

theorem fits_c : ∀ (N : Nat) (p : Pat), psize p ≤ N → ∀ (t : Tm), tsize t < 2^30 → FCallN Tryd.prog G 13 [.pu (patc 0 p), .pu (tmc 0 t)] (fun m => fitV m (fitsM p t)) := by
  intro N
  induction N with
  | zero => intro p h; cases p; simp [psize] at h
  | succ N ih =>
  intro p hp t hN
  obtain ⟨k, n, r, ks⟩ := p
  obtain ⟨k', n', r', ks', cs'⟩ := t
  simp only [psize] at hp
  have hsz : 1 + tsizeL ks' + csizeL cs' < 2^30 := by simpa only [tsize] using hN
  have hlen := length_psizeL ks
  have hlen' := length_tsizeL ks'
  refine FCallN.of_tri tbl 83 Tryd.func13 rfl rfl (fun _ => rfl) fun w0 M ρ0 D0 hM => ?_
  refine Tri.fact (i := 0) rfl (fun D w x h => pat_wf h) (fun hr => ?_)
  refine Tri.fact (i := 1) rfl (fun D w x h => tm_wf h) (fun hr' => ?_)
  simp only [wfP, wfT] at hr hr'
  refine yR ?_
  refine s_box SS 2 ?_
  refine s_box SS 3 ?_
  refine yB ?_
  refine yB ?_
  refine e_seqN [2, 3] ?_
  refine yR ?_
  refine yF ?_
  refine yL ?_
  refine e_seq ?_
  repeat refine Tri.seq ?_
  refine Tri.block ?_
  refine yR ?_
  refine yI ?_
  refine yA ?_
  refine e_seq ?_
  repeat refine Tri.seq ?_
  refine Tri.cond rfl (fun h0 => ?_) (fun h0 => ?_)
  · skip
    have hf : fitsM (.mk k n r ks) (.mk k' n' r' ks' cs') = ([.mk k' n' r' ks' cs'], true) := by simp at h0; simp [fitsM, h0]
    refine yR ?_
    refine yL ?_
    refine s_val (v_callN (fun m n h => (tmc_low h _).imp) (fun _ => own_c (.mk k' n' r' ks' cs') hN)) ?_
    refine s_sl SS (lo := w0.heap.size) ?_
    refine yA ?_
    refine yB ?_
    refine e_seq ?_
    repeat refine Tri.seq ?_
    rw [hf]
    exact Tri.ret ⟨.inr rfl, ret2 rfl resV_tmp (ToPu.imp (by repeat constructor)) resV_tmp (VImp.refl _)⟩
  · skip
    refine yR ?_
    refine yI ?_
    refine yA ?_
    refine e_seq ?_
    repeat refine Tri.seq ?_
    refine Tri.cond rfl (fun h1 => ?_) (fun h1 => ?_)
    · skip
      have hf : fitsM (.mk k n r ks) (.mk k' n' r' ks' cs') = ([], k' == 2 && n' == n) := by simp at h1; simp [fitsM, h1, Tm.kind, Tm.num]
      refine yR ?_
      refine yF ?_
      refine yL ?_
      refine yI ?_
      refine yM ?_
      refine xF ?_
      refine xL ?_
      refine xF ?_
      refine xL ?_
      refine xI ?_
      refine yN ?_
      refine yB ?_
      refine yA ?_
      refine e_draw ?_
      repeat refine Tri.seq ?_
      rw [hf]
      exact Tri.ret ⟨.inr rfl, ret2 rfl resV_tmp (ToPu.imp (by repeat constructor)) resV_tmp (VImp.refl _)⟩
    · skip
      refine yR ?_
      refine yI ?_
      refine yA ?_
      refine e_seq ?_
      repeat refine Tri.seq ?_
      refine Tri.cond rfl (fun h2 => ?_) (fun h2 => ?_)
      · skip
        refine yR ?_
        refine yF ?_
        refine yL ?_
        refine yI ?_
        refine yM ?_
        refine xF ?_
        refine xL ?_
        refine xF ?_
        refine xL ?_
        refine s_gg zG (v_bin SS (h := bin_neS (hr'.1.trans hr.1.symm))) ?_
        refine yO ?_
        refine yM ?_
        refine xF ?_
        refine xL ?_
        refine xF ?_
        refine xL ?_
        refine xI ?_
        refine yO ?_
        refine yM ?_
        refine xF ?_
        refine xL ?_
        refine xC ?_
        refine xF ?_
        refine xL ?_
        refine xC ?_
        refine xI ?_
        refine yO ?_
        refine e_seq ?_
        repeat refine Tri.seq ?_
        refine Tri.cond rfl (fun h3 => ?_) (fun h3 => ?_)
        · skip
          have hf : fitsM (.mk k n r ks) (.mk k' n' r' ks' cs') = ([], false) := by
            rw [tms_length, pats_length] at h3
            simp only [beq_iff_eq] at h2
            rw [h2]
            show (if (k' != 8 || !(r' == r) || n' != n || ((ks'.length : Int) != ks.length)) = true then (([], false) : List Tm × Bool) else fitsL ks ks') = _
            exact if_pos h3
          refine yR ?_
          refine yB ?_
          refine yB ?_
          refine e_seq ?_
          repeat refine Tri.seq ?_
          rw [hf]
          exact Tri.ret ⟨.inr rfl, ret2 rfl resV_tmp (ToPu.imp (by repeat constructor)) resV_tmp (VImp.refl _)⟩
        · skip
          have hf : fitsM (.mk k n r ks) (.mk k' n' r' ks' cs') = fitsL ks ks' := by
            rw [tms_length, pats_length] at h3
            simp only [beq_iff_eq] at h2
            rw [h2]
            show (if (k' != 8 || !(r' == r) || n' != n || ((ks'.length : Int) != ks.length)) = true then (([], false) : List Tm × Bool) else fitsL ks ks') = _
            exact if_neg (by rw [h3]; simp)
          have hll : ks'.length = ks.length := by
            rw [tms_length, pats_length] at h3
            simp only [Bool.or_eq_false_iff, bne_eq_false_iff_eq] at h3
            omega
          refine Tri.skip ?_
          refine yR ?_
          refine yB ?_
          refine e_seq ?_
          refine yR ?_
          refine yF ?_
          refine yK ?_
          refine yC ?_
          refine yJ ?_
          refine e_seq ?_
          repeat refine Tri.seq ?_
          refine Tri.block (Tri.loopW (σ := {x : Nat × List Tm // fitsL (ks.take x.1) (ks'.take x.1) = (x.2, true)}) (fun i => ⟨[(2, .ptr 2 [] 26), (3, .ptr 3 [] 30), (6, .ow w0.heap.size 30 (tmsc w0.heap.size i.1.2)), (59, .pu (.sl 0 26 (patsc 0 ks))), (60, iv .i64 (patsc 0 ks).length), (61, iv .i64 i.1.1)], [(2, .var 26 (.pu (patc 0 (.mk k n r ks)))), (3, .var 30 (.pu (tmc 0 (.mk k' n' r' ks' cs'))))]⟩) (fun i => ks.length - i.1.1) ⟨(0, []), by simp [fitsL]⟩ ?_ ?_ (fun i => ?_))
          · repeat (first | exact .nil | refine .cons rfl (by first | exact .refl | (focus ((repeat constructor); done)) | (exact .nilcOw)) ?_)
          · repeat (first | exact .nil | refine .cons rfl (by first | exact .refl | (focus ((repeat constructor); done)) | (exact .nilcOw)) ?_)
          refine yR ?_
          refine yI ?_
          refine e_seq ?_
          repeat refine Tri.seq ?_
          refine Tri.cond rfl (fun h4 => ?_) (fun h4 => ?_)
          · skip
            have hi : i.1.1 < ks.length := by rw [pats_length] at h4; simpa using h4
            have hi' : i.1.1 < ks'.length := by omega
            have htk := fitsL_take hi hi'
            rw [i.2] at htk
            have hsp := psizeL_get hi
            have hst := tsize_mem (List.getElem_mem hi')
            refine Tri.skip ?_
            repeat refine Tri.seq ?_
            refine Tri.block ?_
            refine yR ?_
            refine yM ?_
            refine s_val (v_index SS (h0 := by omega) (hp := pats_get hi)) ?_
            refine yL ?_
            refine s_alloc SS 8 ?_
            refine yA ?_
            refine yS ?_
            refine e_seqN [8] ?_
            refine yR ?_
            refine yL ?_
            refine yF ?_
            refine yK ?_
            refine yM ?_
            refine s_val (v_index SS (h0 := by omega) (hp := tms_get hi')) ?_
            refine yL ?_
            refine s_val (v_callN (fun m n h => fitV_low h _) (fun _ => ih ks[i.1.1] (by omega) ks'[i.1.1] (by omega))) ?_
            refine yM ?_
            refine yX ?_
            refine yX ?_
            refine yA ?_
            refine yA ?_
            refine e_draw ?_
            refine yR ?_
            refine yM ?_
            refine yQ ?_
            refine e_seq ?_
            repeat refine Tri.seq ?_
            refine Tri.cond rfl (fun h5 => ?_) (fun h5 => ?_)
            · skip
              have hf2 : fitsL ks ks' = ([], false) := fitsL_stop (i := i.1.1 + 1) (by
                rw [htk]; simp at h5; simp [fitAdd, h5])
              rw [hf2] at hf
              refine yR ?_
              refine yB ?_
              refine yB ?_
              refine e_seq ?_
              repeat refine Tri.seq ?_
              rw [hf]
              exact Tri.ret ⟨.inr rfl, ret2 rfl resV_tmp (ToPu.imp (by repeat constructor)) resV_tmp (VImp.refl _)⟩
            · skip
              have hnext : fitsL (ks.take (i.1.1 + 1)) (ks'.take (i.1.1 + 1)) = (i.1.2 ++ (fitsM ks[i.1.1] ks'[i.1.1]).1, true) := by
                rw [htk]; simp at h5; simp [fitAdd, h5]
              refine Tri.skip ?_
              refine yR ?_
              refine yM ?_
              refine yM ?_
              refine s_app1 6 ?_ ?_
              · have h1 := fitsL_b (ks.take i.1.1) (ks'.take i.1.1)
                have h2 := fits_b ks[i.1.1] ks'[i.1.1]
                have h3 := tsizeL_take (ks := ks') (i := i.1.1)
                rw [i.2] at h1
                simp only [tms_length] at h1 ⊢
                omega
              refine yA ?_
              refine e_seq ?_
              refine yR ?_
              refine yI ?_
              refine yM ?_
              refine e_seq ?_
              refine ⟨⟨(i.1.1 + 1, i.1.2 ++ (fitsM ks[i.1.1] ks'[i.1.1]).1), hnext⟩, by show ks.length - (i.1.1 + 1) < ks.length - i.1.1; omega, le_of ?_ ?_⟩
              · repeat (first | exact SubE.nil | refine SubE.cons rfl (by first | rfl | (rw [wrap64 (by omega) (by omega)]; rfl) | (simp only [tms_eq, List.map_append])) ?_)
              · repeat (first | exact SubH.nil | refine SubH.cons rfl (by first | rfl | (rw [wrap64 (by omega) (by omega)]; rfl) | (simp only [tms_eq, List.map_append])) ?_)
          · skip
            have hf2 : fitsL ks ks' = (i.1.2, true) := by
              have := i.2
              rwa [List.take_of_length_le (by rw [pats_length] at h4; simp at h4; omega), List.take_of_length_le (by rw [pats_length] at h4; simp at h4; omega)] at this
            rw [hf2] at hf
            refine Tri.exit ?_
            refine yR ?_
            refine yM ?_
            refine yA ?_
            refine yB ?_
            refine e_seq ?_
            repeat refine Tri.seq ?_
            rw [hf]
            exact Tri.ret ⟨.inr rfl, ret2 rfl resV_tmp (ToPu.imp (by repeat constructor)) resV_tmp (VImp.refl _)⟩
      · skip
        have hf : fitsM (.mk k n r ks) (.mk k' n' r' ks' cs') = ([], false) := by
          simp at h0 h1 h2
          simp [fitsM, h0, h1, h2]
        refine Tri.skip ?_
        refine yR ?_
        refine yB ?_
        refine yB ?_
        refine e_seq ?_
        repeat refine Tri.seq ?_
        rw [hf]
        exact Tri.ret ⟨.inr rfl, ret2 rfl resV_tmp (ToPu.imp (by repeat constructor)) resV_tmp (VImp.refl _)⟩
end Go.Proofs.YtkcgkignhpepkaaDoor

/- What comes of a Prim, and of a Match. -/
namespace Go.Proofs.YtkcgkignhpepkaaDoor
open Go Hs
variable {G : List (Nat × TypeId × Pu)}

def natM (n : Int) : Tm := .mk 2 n Z32 [] []
def primV (op a b : Int) : Int :=
  if op = 1 then IntKind.wrap .i64 (a + b) else if op = 2 then IntKind.wrap .i64 (a - b) else if op = 3 then IntKind.wrap .i64 (a * b)
  else if op = 4 then (if a = b then 1 else 0) else if op = 5 then (if a < b then 1 else 0) else 0
def capM (x : Int) : Int := if 1073741824 < (if x < 0 then 0 else x) then 1073741824 else (if x < 0 then 0 else x)
def primM (op a b : Int) : Tm := natM (capM (primV op a b))

theorem primE {P : Program} (m : Nat) (op a b : Int) {x : Int} (xk yk : Int) (xr yr : List Int) (xs ys : List Tm) (xc yc : List Cs) (h : x = primV op a b) :
    VImp P (.agg 30 [iv .i64 2, iv .i64 (if 1073741824 < (if x < 0 then 0 else x) then 1073741824 else (if x < 0 then 0 else x)), .pu (refP Z32), .nilc, .nilc]) (.pu (tmc m (primM op (Tm.mk xk a xr xs xc).num (Tm.mk yk b yr ys yc).num))) := by
  subst h
  exact ToPu.imp (by unfold primM natM capM Tm.num; repeat constructor)

theorem prim_c (k n : Int) (r : List Int) (ks : List Tm) (cs : List Cs) (h2 : 2 ≤ ks.length) : FCallN Tryd.prog G 74 [.pu (tmc 0 (.mk k n r ks cs))] (fun m => .pu (tmc m (primM n ks[0].num ks[1].num))) := by
  have hg0 := tms_get (lo := 0) (ks := ks) (i := 0) (by omega)
  have hg1 := tms_get (lo := 0) (ks := ks) (i := 1) (by omega)
  generalize ks[0] = x at hg0 ⊢
  generalize ks[1] = y at hg1 ⊢
  obtain ⟨xk, xn, xr, xs, xc⟩ := x
  obtain ⟨yk, yn, yr, ys, yc⟩ := y
  refine FCallN.of_tri tbl 47 Tryd.func74 rfl rfl (fun _ => rfl) fun w0 M ρ0 D0 hM => ?_
  refine yR ?_
  refine s_box SS 1 ?_
  refine s_alloc SS 2 ?_
  refine e_seqN [1, 2] ?_
  refine yR ?_
  refine yF ?_
  refine yK ?_
  refine s_val (v_index SS (h0 := by omega) (hp := hg0)) ?_
  refine yF ?_
  refine yL ?_
  refine yF ?_
  refine yK ?_
  refine s_val (v_index SS (h0 := by omega) (hp := hg1)) ?_
  refine yF ?_
  refine yL ?_
  refine yA ?_
  refine yA ?_
  refine e_draw ?_
  refine yR ?_
  refine yB ?_
  refine e_seq ?_
  refine yR ?_
  refine yF ?_
  refine yL ?_
  refine e_seq ?_
  repeat refine Tri.seq ?_
  refine Tri.block ?_
  refine yR ?_
  refine yI ?_
  refine yA ?_
  refine e_seq ?_
  repeat refine Tri.seq ?_
  refine Tri.cond rfl (fun h0 => ?_) (fun h0 => ?_)
  · skip
    refine yR ?_
    refine yM ?_
    refine yM ?_
    refine yI ?_
    refine yA ?_
    refine e_seq ?_
    refine yR ?_
    refine yM ?_
    refine s_val (v_maxD) ?_
    refine s_val (v_minD) ?_
    refine yP ?_
    refine yS ?_
    refine e_seq ?_
    repeat refine Tri.seq ?_
    exact Tri.ret ⟨.inr rfl, ret1 rfl resV_cell ((by first | exact primE _ _ _ _ _ _ _ _ _ _ _ _ (by simp only [beq_iff_eq, beq_eq_false_iff_ne, ne_eq, decide_eq_true_eq, decide_eq_false_iff_not] at *; simp_all [primV])))⟩
  · skip
    refine yR ?_
    refine yI ?_
    refine yA ?_
    refine e_seq ?_
    repeat refine Tri.seq ?_
    refine Tri.cond rfl (fun h1 => ?_) (fun h1 => ?_)
    · skip
      refine yR ?_
      refine yM ?_
      refine yM ?_
      refine yI ?_
      refine yA ?_
      refine e_seq ?_
      refine yR ?_
      refine yM ?_
      refine s_val (v_maxD) ?_
      refine s_val (v_minD) ?_
      refine yP ?_
      refine yS ?_
      refine e_seq ?_
      repeat refine Tri.seq ?_
      exact Tri.ret ⟨.inr rfl, ret1 rfl resV_cell ((by first | exact primE _ _ _ _ _ _ _ _ _ _ _ _ (by simp only [beq_iff_eq, beq_eq_false_iff_ne, ne_eq, decide_eq_true_eq, decide_eq_false_iff_not] at *; simp_all [primV])))⟩
    · skip
      refine yR ?_
      refine yI ?_
      refine yA ?_
      refine e_seq ?_
      repeat refine Tri.seq ?_
      refine Tri.cond rfl (fun h2 => ?_) (fun h2 => ?_)
      · skip
        refine yR ?_
        refine yM ?_
        refine yM ?_
        refine yI ?_
        refine yA ?_
        refine e_seq ?_
        refine yR ?_
        refine yM ?_
        refine s_val (v_maxD) ?_
        refine s_val (v_minD) ?_
        refine yP ?_
        refine yS ?_
        refine e_seq ?_
        repeat refine Tri.seq ?_
        exact Tri.ret ⟨.inr rfl, ret1 rfl resV_cell ((by first | exact primE _ _ _ _ _ _ _ _ _ _ _ _ (by simp only [beq_iff_eq, beq_eq_false_iff_ne, ne_eq, decide_eq_true_eq, decide_eq_false_iff_not] at *; simp_all [primV])))⟩
      · skip
        refine yR ?_
        refine yI ?_
        refine yA ?_
        refine e_seq ?_
        repeat refine Tri.seq ?_
        refine Tri.cond rfl (fun h3 => ?_) (fun h3 => ?_)
        · skip
          refine yR ?_
          refine yM ?_
          refine yM ?_
          refine yI ?_
          refine e_seq ?_
          repeat refine Tri.seq ?_
          refine Tri.cond rfl (fun h4 => ?_) (fun h4 => ?_)
          · skip
            refine yR ?_
            refine yB ?_
            refine e_seq ?_
            refine yR ?_
            refine yM ?_
            refine s_val (v_maxD) ?_
            refine s_val (v_minD) ?_
            refine yP ?_
            refine yS ?_
            refine e_seq ?_
            repeat refine Tri.seq ?_
            exact Tri.ret ⟨.inr rfl, ret1 rfl resV_cell ((by first | exact primE _ _ _ _ _ _ _ _ _ _ _ _ (by simp only [beq_iff_eq, beq_eq_false_iff_ne, ne_eq, decide_eq_true_eq, decide_eq_false_iff_not] at *; simp_all [primV])))⟩
          · skip
            refine Tri.skip ?_
            refine yR ?_
            refine yM ?_
            refine s_val (v_maxD) ?_
            refine s_val (v_minD) ?_
            refine yP ?_
            refine yS ?_
            refine e_seq ?_
            repeat refine Tri.seq ?_
            exact Tri.ret ⟨.inr rfl, ret1 rfl resV_cell ((by first | exact primE _ _ _ _ _ _ _ _ _ _ _ _ (by simp only [beq_iff_eq, beq_eq_false_iff_ne, ne_eq, decide_eq_true_eq, decide_eq_false_iff_not] at *; simp_all [primV])))⟩
        · skip
          refine yR ?_
          refine yI ?_
          refine yA ?_
          refine e_seq ?_
          repeat refine Tri.seq ?_
          refine Tri.cond rfl (fun h5 => ?_) (fun h5 => ?_)
          · skip
            refine yR ?_
            refine yM ?_
            refine yM ?_
            refine yI ?_
            refine e_seq ?_
            repeat refine Tri.seq ?_
            refine Tri.cond rfl (fun h6 => ?_) (fun h6 => ?_)
            · skip
              refine yR ?_
              refine yB ?_
              refine e_seq ?_
              refine yR ?_
              refine yM ?_
              refine s_val (v_maxD) ?_
              refine s_val (v_minD) ?_
              refine yP ?_
              refine yS ?_
              refine e_seq ?_
              repeat refine Tri.seq ?_
              exact Tri.ret ⟨.inr rfl, ret1 rfl resV_cell ((by first | exact primE _ _ _ _ _ _ _ _ _ _ _ _ (by simp only [beq_iff_eq, beq_eq_false_iff_ne, ne_eq, decide_eq_true_eq, decide_eq_false_iff_not] at *; simp_all [primV])))⟩
            · skip
              refine Tri.skip ?_
              refine yR ?_
              refine yM ?_
              refine s_val (v_maxD) ?_
              refine s_val (v_minD) ?_
              refine yP ?_
              refine yS ?_
              refine e_seq ?_
              repeat refine Tri.seq ?_
              exact Tri.ret ⟨.inr rfl, ret1 rfl resV_cell ((by first | exact primE _ _ _ _ _ _ _ _ _ _ _ _ (by simp only [beq_iff_eq, beq_eq_false_iff_ne, ne_eq, decide_eq_true_eq, decide_eq_false_iff_not] at *; simp_all [primV])))⟩
          · skip
            refine Tri.skip ?_
            refine yR ?_
            refine yM ?_
            refine s_val (v_maxD) ?_
            refine s_val (v_minD) ?_
            refine yP ?_
            refine yS ?_
            refine e_seq ?_
            repeat refine Tri.seq ?_
            exact Tri.ret ⟨.inr rfl, ret1 rfl resV_cell ((by first | exact primE _ _ _ _ _ _ _ _ _ _ _ _ (by simp only [beq_iff_eq, beq_eq_false_iff_ne, ne_eq, decide_eq_true_eq, decide_eq_false_iff_not] at *; simp_all [primV])))⟩

/-- A term of no kind. -/
def noneM : Tm := .mk 0 0 Z32 [] []
def matchM : List Cs → Tm → Tm
  | [], _ => noneM
  | .mk q b :: cs, v => if (fitsM q v).2 then putM (fitsM q v).1 0 b else matchM cs v

mutual
theorem fits_sz : ∀ (p : Pat) (v : Tm), ∀ x ∈ (fitsM p v).1, tsize x ≤ tsize v
  | .mk k n r ks, v, x, hx => by
    simp only [fitsM] at hx
    split at hx
    · simp at hx; rw [hx]; omega
    · split at hx
      · simp at hx
      · split at hx
        · split at hx
          · simp at hx
          · have := fitsL_sz ks v.kids x hx
            obtain ⟨k', n', r', ks', cs'⟩ := v
            simp only [Tm.kids, tsize] at this ⊢
            omega
        · simp at hx
theorem fitsL_sz : ∀ (ps : List Pat) (vs : List Tm), ∀ x ∈ (fitsL ps vs).1, tsize x ≤ tsizeL vs
  | [], vs, x, hx => by simp [fitsL] at hx
  | _ :: _, [], x, hx => by simp [fitsL] at hx
  | p :: ps, v :: vs, x, hx => by
    simp only [fitsL, fitAdd] at hx
    simp only [tsizeL]
    split at hx
    · rcases List.mem_append.1 hx with h | h
      · have := fits_sz p v x h; omega
      · have := fitsL_sz ps vs x h; omega
    · simp at hx
end

theorem matched_c (k n : Int) (r : List Int) (ks : List Tm) (cs : List Cs) (h1 : 1 ≤ ks.length) (hN : tsize (.mk k n r ks cs) < 2^30) : FCallN Tryd.prog G 75 [.pu (tmc 0 (.mk k n r ks cs))] (fun m => .pu (tmc m (matchM cs ks[0]))) := by
  have hg0 := tms_get (lo := 0) (ks := ks) (i := 0) (by omega)
  have hs0 := tsize_mem (List.getElem_mem (l := ks) (n := 0) (by omega))
  generalize ks[0] = v at hg0 hs0 ⊢
  have hsz : 1 + tsizeL ks + csizeL cs < 2^30 := by simpa only [tsize] using hN
  have hlenc := length_csizeL cs
  refine FCallN.of_tri tbl 31 Tryd.func75 rfl rfl (fun _ => rfl) fun w0 M ρ0 D0 hM => ?_
  refine yR ?_
  refine s_box SS 1 ?_
  refine s_alloc SS 2 ?_
  refine e_seqN [1, 2] ?_
  refine yR ?_
  refine yF ?_
  refine yK ?_
  refine yC ?_
  refine yJ ?_
  refine e_seq ?_
  repeat refine Tri.seq ?_
  refine Tri.block (Tri.loopW (σ := {i : Nat // matchM cs v = matchM (cs.drop i) v}) (fun i => ⟨[(1, .ptr 1 [] 30), (2, .ptr 2 [] 30), (8, .pu (.sl 0 34 (cssc 0 cs))), (9, iv .i64 (cssc 0 cs).length), (10, iv .i64 i.1)], [(1, .var 30 (.pu (tmc 0 (.mk k n r ks cs)))), (2, .var 30 (.agg 30 [iv .i64 0, iv .i64 0, .pu (refP Z32), .nilc, .nilc]))]⟩) (fun i => cs.length - i.1) ⟨0, rfl⟩ ?_ ?_ (fun i => ?_))
  · exact zW
  · exact zW
  refine yR ?_
  refine yI ?_
  refine e_seq ?_
  repeat refine Tri.seq ?_
  refine Tri.cond rfl (fun h0 => ?_) (fun h0 => ?_)
  · skip
    have hi : i.1 < cs.length := by rw [css_length] at h0; simpa using h0
    have hget := css_get (lo := 0) hi
    have hcz := csize_mem (List.getElem_mem hi)
    have hdrop := i.2
    rw [List.drop_eq_getElem_cons hi] at hdrop
    generalize hci : cs[i.1] = ci at hget hcz hdrop
    obtain ⟨q, b⟩ := ci
    simp only [csize] at hcz
    have hfb := fits_b q v
    refine Tri.skip ?_
    repeat refine Tri.seq ?_
    refine Tri.block ?_
    refine yR ?_
    refine s_val (v_index SS (h0 := by omega) (hp := hget)) ?_
    refine yL ?_
    refine s_alloc SS 4 ?_
    refine yS ?_
    refine e_seqN [4] ?_
    refine yR ?_
    refine yF ?_
    refine yL ?_
    refine yF ?_
    refine yK ?_
    refine s_val (v_index SS (h0 := by omega) (hp := hg0)) ?_
    refine yL ?_
    refine s_val (v_callN (fun m n h => fitV_low h _) (fun _ => fits_c _ q (Nat.le_refl _) v (by omega))) ?_
    refine yM ?_
    refine yX ?_
    refine yX ?_
    refine yA ?_
    refine yA ?_
    refine e_draw ?_
    refine yR ?_
    refine yM ?_
    refine e_seq ?_
    repeat refine Tri.seq ?_
    refine Tri.cond rfl (fun h1 => ?_) (fun h1 => ?_)
    · skip
      have hm : matchM cs v = putM (fitsM q v).1 0 b := hdrop.trans (by simp only [matchM, h1, if_true])
      refine yR ?_
      refine yF ?_
      refine yL ?_
      refine yM ?_
      refine s_val (v_callN (fun m n h => (tmc_low h _).imp) (fun _ => put_c (fitsM q v).1 (by omega) (fun x hx => by have := fits_sz q v x hx; omega) b (by omega)) (himp := .cons (VImp.refl _) (.cons (VImp.refl _) (.cons (Low.imp (.sl (Nat.zero_le _) (tmsc_low (Nat.zero_le _) _))) .nil)))) ?_
      refine yS ?_
      refine e_seq ?_
      repeat refine Tri.seq ?_
      exact Tri.ret ⟨.inr rfl, ret1 rfl resV_cell ((by rw [hm]; exact VImp.refl _))⟩
    · skip
      have hnext : matchM cs v = matchM (cs.drop (i.1 + 1)) v := hdrop.trans (by simp only [matchM, h1, Bool.false_eq_true, if_false])
      refine Tri.skip ?_
      refine yR ?_
      refine yI ?_
      refine yM ?_
      refine e_seq ?_
      refine ⟨⟨i.1 + 1, hnext⟩, by show cs.length - (i.1 + 1) < cs.length - i.1; omega, le_of ?_ ?_⟩
      · exact zE
      · exact zH
  · skip
    have hm : matchM cs v = noneM := by have := i.2; rwa [List.drop_of_length_le (by rw [css_length] at h0; simp at h0; omega)] at this
    refine Tri.exit ?_
    refine yR ?_
    refine yT ?_
    refine yS ?_
    refine e_seq ?_
    repeat refine Tri.seq ?_
    exact Tri.ret ⟨.inr rfl, ret1 rfl resV_cell ((by rw [hm]; exact ToPu.imp (by repeat constructor)))⟩
end Go.Proofs.YtkcgkignhpepkaaDoor

/- The place of work: its parts. -/
namespace Go.Proofs.YtkcgkignhpepkaaDoor
open Go Hs
variable {G : List (Nat × TypeId × Pu)}

def pathL (path : List Nat) : List Pu := path.map fun (n : Nat) => .leaf (.int .i64 (n : Int))
def siteP (path : List Nat) (way : List Tm) : Pu := .agg 112 [.sl 0 3 (pathL path), .sl 0 30 (tmsc 0 way)]
instance (path : List Nat) (way : List Tm) : TyV Tryd.prog 112 (.pu (siteP path way)) := inferInstanceAs (TyV Tryd.prog 112 (.pu (.agg _ _)))
theorem path_len (path : List Nat) : (pathL path).length = path.length := by simp [pathL]
theorem path_get {path : List Nat} {i : Nat} (h : i < path.length) : (pathL path)[i]? = some (.leaf (.int .i64 (path[i] : Nat))) := by simp [pathL, h]

theorem site_wf {D : Nat → Nat → Prop} {w : World} {path : List Nat} {way : List Tm} {x : List Value} (h : PR Tryd.prog D w (siteP path way) x) : wfTs way := by
  obtain ⟨_, h⟩ := PR_agg h
  obtain ⟨_, _, _, h⟩ := PRs_cons h
  obtain ⟨⟨_, h⟩, _⟩ := PRs_cons h
  obtain ⟨_, _, h⟩ := PR_sl h
  exact tms_wf h

theorem at_c (path : List Nat) (way : List Tm) (h : path.length < way.length) : FCall Tryd.prog G 64 [.pu (siteP path way)] (.pu (tmc 0 way[path.length])) := by
  refine FCall.of_tri tbl 10 Tryd.func64 rfl rfl rfl fun w0 M ρ0 D0 => ?_
  refine yR ?_
  refine s_box SS 1 ?_
  refine s_alloc SS 2 ?_
  refine e_seqN [1, 2] ?_
  refine yR ?_
  refine yF ?_
  refine yK ?_
  refine yF ?_
  refine yK ?_
  refine yC ?_
  refine s_val (v_index SS (h0 := by omega) (hp := by rw [path_len]; exact tms_get h)) ?_
  refine yL ?_
  refine yS ?_
  refine e_seq ?_
  repeat refine Tri.seq ?_
  exact Tri.ret ⟨.inr rfl, ret1 rfl resV_cell (VImp.refl _)⟩

def opP (r : List Int) (n : Int) : Pu := .agg 136 [refP r, .leaf (.int .i64 n)]
instance (r : List Int) (n : Int) : TyV Tryd.prog 136 (.pu (opP r n)) := inferInstanceAs (TyV Tryd.prog 136 (.pu (.agg _ _)))
theorem op_cond (r : List Int) (n : Int) (r' : List Int) (n' : Int) : Tryd.prog.eqGuardType Tryd.prog.depth 136 = false ∧ 136 < Tryd.prog.types.size ∧ tyP Tryd.prog 136 (opP r n) = true ∧ tyP Tryd.prog 136 (opP r' n') = true :=
  ⟨by kernel_rfl, of_decide_eq_true (by kernel_rfl), (show tyV Tryd.prog 136 (.pu (opP r n)) = true from TyV.ok), (show tyV Tryd.prog 136 (.pu (opP r' n')) = true from TyV.ok)⟩
theorem list2 {α : Type} : ∀ {l : List α}, l.length = 2 → ∃ a b, l = [a, b]
  | [a, b], _ => ⟨a, b, rfl⟩
theorem op_fields : ∃ f1 f2 : Field, Tryd.prog.underlying 136 = some (.struct #[f1, f2]) ∧ f1.name ≠ "_" ∧ f2.name ≠ "_" ∧ f1.type = 23 ∧ f2.type = 3 := by
  have h : (match Tryd.prog.underlying 136 with | some (.struct fs) => (fs.toList.map (·.type) == [23, 3]) && fs.toList.all (fun f => f.name != "_") | _ => false) = true := by kernel_rfl
  split at h
  · rename_i fs hfs
    obtain ⟨l⟩ := fs
    simp only [Bool.and_eq_true, beq_iff_eq] at h
    obtain ⟨h1, h2⟩ := h
    obtain ⟨f1, f2, rfl⟩ : ∃ f1 f2, l = [f1, f2] := list2 (by simpa using congrArg List.length h1)
    simp only [List.map_cons, List.map_nil, List.cons.injEq, and_true] at h1
    simp only [List.all_cons, List.all_nil, Bool.and_true, Bool.and_eq_true, bne_iff_ne] at h2
    exact ⟨f1, f2, hfs, h2.1, h2.2, h1.1, h1.2⟩
  · cases h
theorem peq_op (d : Nat) {r : List Int} (n : Int) {r' : List Int} (n' : Int) (h : r.length = r'.length) : peqT Tryd.prog (d + 4) 136 (opP r n) (opP r' n') = some ((r == r') && ((n == n') && true)) := by
  obtain ⟨f1, f2, hu, a1, a2, b1, b2⟩ := op_fields
  have hs : Tryd.prog.stoodInHeld 136 = false := by kernel_rfl
  have hi : Tryd.prog.underlying 3 = some (.int .i64) := by kernel_rfl
  have hr := peq_refD (d + 1) h
  have hn : peqT Tryd.prog (d + 3) 3 (.leaf (.int .i64 n)) (.leaf (.int .i64 n')) = some (n == n') := by simp only [peqT, hi, if_true]
  unfold opP
  rw [peqT.eq_def]
  simp only [hu, hs, Bool.false_eq_true, if_false, peqF, a1, a2, b1, b2, hr, hn]
theorem bin_eqO {r : List Int} {n : Int} {r' : List Int} {n' : Int} (h : r.length = r'.length) : binV Tryd.prog .eql 136 (.pu (opP r n)) (.pu (opP r' n')) = some (bv ((r == r') && ((n == n') && true))) := by
  have h1 := op_cond r n r' n'
  have h2 := fun e => peq_op e n n' h
  unfold opP at h1 h2 ⊢
  simp only [binV, if_pos h1]
  generalize hd : (100 : Nat) = d
  obtain ⟨e, rfl⟩ : ∃ e, d = e + 4 := ⟨96, by omega⟩
  rw [h2 e]

theorem op_wf {D : Nat → Nat → Prop} {w : World} {r : List Int} {n : Int} {x : List Value} (h : PR Tryd.prog D w (opP r n) x) : r.length = 32 := by
  obtain ⟨_, h⟩ := PR_agg h
  obtain ⟨⟨_, h⟩, _⟩ := PRs_cons h
  exact ref_len h
def handM (way : List Tm) (r : List Int) : Nat → Int
  | 0 => -1
  | n + 1 => match way[n]? with
    | some x => if x.kind == 12 && x.ref == r then n else handM way r n
    | none => handM way r n

theorem handler_c (path : List Nat) (way : List Tm) (r : List Int) (n : Int) (h : path.length ≤ way.length) (hl : way.length < 2^40) : FCall Tryd.prog G 79 [.pu (siteP path way), .pu (opP r n)] (iv .i64 (handM way r path.length)) := by
  refine FCall.of_tri tbl 33 Tryd.func79 rfl rfl rfl fun w0 M ρ0 D0 => ?_
  refine Tri.fact (i := 0) rfl (fun D w x h => site_wf h) (fun hr => ?_)
  refine Tri.fact (i := 1) rfl (fun D w x h => op_wf h) (fun hr' => ?_)
  refine yR ?_
  refine s_box SS 2 ?_
  refine s_box SS 3 ?_
  refine yB ?_
  refine e_seqN [2, 3] ?_
  refine yR ?_
  refine yF ?_
  refine yK ?_
  refine yC ?_
  refine yI ?_
  refine yA ?_
  refine e_seq ?_
  repeat refine Tri.seq ?_
  refine Tri.block (Tri.loopW (σ := {j : Nat // j ≤ path.length ∧ handM way r path.length = handM way r j}) (fun i => ⟨[(2, .ptr 2 [] 112), (3, .ptr 3 [] 136), (5, iv .i64 ((i.1 : Int) - 1))], [(2, .var 112 (.pu (siteP path way))), (3, .var 136 (.pu (opP r n)))]⟩) (fun i => i.1) ⟨path.length, Nat.le_refl _, rfl⟩ ?_ ?_ (fun i => ?_))
  · repeat (first | exact .nil | refine .cons rfl (by first | exact .refl | (focus ((repeat constructor); done)) | (rw [path_len, wrap64 (by omega) (by omega)]; exact .refl)) ?_)
  · repeat (first | exact .nil | refine .cons rfl (by first | exact .refl | (focus ((repeat constructor); done)) | (rw [path_len, wrap64 (by omega) (by omega)]; exact .refl)) ?_)
  refine yR ?_
  refine yM ?_
  refine yI ?_
  refine e_seq ?_
  repeat refine Tri.seq ?_
  refine Tri.cond rfl (fun h0 => ?_) (fun h0 => ?_)
  · skip
    have hj : 0 < i.1 := by simp at h0; omega
    obtain ⟨j, hj⟩ : ∃ j, i.1 = j + 1 := ⟨i.1 - 1, by omega⟩
    have hjw : j < way.length := by have := i.2.1; omega
    have hx := tms_get (lo := 0) hjw
    have hxl := wfTs_mem hr _ (List.getElem_mem hjw)
    have hst := i.2.2
    rw [hj] at hst
    simp only [handM, List.getElem?_eq_getElem hjw] at hst
    generalize way[j] = x at hx hxl hst
    obtain ⟨xk, xn, xr, xs, xc⟩ := x
    refine Tri.skip ?_
    repeat refine Tri.seq ?_
    refine Tri.block ?_
    refine yR ?_
    refine yF ?_
    refine yK ?_
    refine yM ?_
    refine s_val (v_index SS (h0 := by omega) (hp := by rw [show ((i.1 : Int) - 1).toNat = j by omega]; exact hx)) ?_
    refine yL ?_
    refine s_alloc SS 6 ?_
    refine yS ?_
    refine e_seqN [6] ?_
    refine yR ?_
    refine yF ?_
    refine yL ?_
    refine yI ?_
    refine yM ?_
    refine xF ?_
    refine xL ?_
    refine xF ?_
    refine xL ?_
    refine xP ?_
    refine xL ?_
    refine s_gg zG (v_bin SS (h := bin_eqO (hxl.1.trans hr'.symm))) ?_
    refine yN ?_
    refine e_seq ?_
    repeat refine Tri.seq ?_
    refine Tri.cond rfl (fun h1 => ?_) (fun h1 => ?_)
    · skip
      refine yR ?_
      refine yM ?_
      refine yA ?_
      refine e_seq ?_
      repeat refine Tri.seq ?_
      exact Tri.ret ⟨.inr rfl, ret1 rfl resV_tmp (iv_imp (by simp_all [Tm.kind, Tm.ref]))⟩
    · skip
      have hnext : handM way r path.length = handM way r j := by simp_all [Tm.kind, Tm.ref]
      refine Tri.skip ?_
      refine yR ?_
      refine yM ?_
      refine yI ?_
      refine yA ?_
      refine e_seq ?_
      refine ⟨⟨j, by omega, hnext⟩, by show j < i.1; omega, le_of ?_ ?_⟩
      · repeat (first | exact SubE.nil | refine SubE.cons rfl (by first | rfl | (rw [wrap64 (by omega) (by omega)]; rfl) | (rw [wrap64 (by omega) (by omega)]; rw [show ((i.1 : Int) - 1 - 1) = (j : Int) - 1 by omega])) ?_)
      · repeat (first | exact SubH.nil | refine SubH.cons rfl (by first | rfl | (rw [wrap64 (by omega) (by omega)]; rfl) | (rw [wrap64 (by omega) (by omega)]; rw [show ((i.1 : Int) - 1 - 1) = (j : Int) - 1 by omega])) ?_)
  · skip
    refine Tri.exit ?_
    refine yR ?_
    refine yB ?_
    refine e_seq ?_
    repeat refine Tri.seq ?_
    exact Tri.ret ⟨.inr rfl, ret1 rfl resV_tmp (iv_imp (by have := i.2.2; simp at h0; rw [this, show i.1 = 0 by omega]; rfl))⟩
end Go.Proofs.YtkcgkignhpepkaaDoor

/- A term in the place of work. -/
namespace Go.Proofs.YtkcgkignhpepkaaDoor
open Go Hs
variable {G : List (Nat × TypeId × Pu)}

def setKid : Tm → Nat → Tm → Tm
  | .mk k n r ks cs, j, x => .mk k n r (ks.set j x) cs
def fillM (way : List Tm) (path : List Nat) (lo : Nat) : Nat → Tm → Tm
  | 0, x => x
  | n + 1, x => if n < lo then x else match way[n]?, path[n]? with
    | some t, some k => fillM way path lo n (setKid t k x)
    | _, _ => x

theorem tms_set (lo : Nat) (ks : List Tm) (j : Nat) (x : Tm) : ((tmsc lo ks).map PV.pu).set j (.pu (tmc lo x)) = (tmsc lo (ks.set j x)).map .pu := by
  rw [tms_eq, tms_eq, List.map_set, List.map_set]
theorem tms_setl (ks : List Tm) (j : Nat) (x : Tm) : (ks.set j x).length = ks.length := by simp
instance {lo : Nat} {ks : List Tm} : NoLab (.row 30 ((tmsc lo ks).map .pu)) := NoLab.row (f := id)

theorem filled_c (path : List Nat) (way : List Tm) (lo hi : Nat) (x : Tm) (h1 : hi ≤ path.length) (h2 : hi ≤ way.length) (hp : ∀ i (h : i < hi), path[i] < way[i].kids.length) (hw : ∀ t ∈ way, t.kids.length < 2^30) (hl : path.length < 2^30) (hlo : lo < 2^40) :
    FCall Tryd.prog G 70 [.pu (siteP path way), iv .i64 lo, iv .i64 hi, .pu (tmc 0 x)] (.pu (tmc 0 (fillM way path lo hi x))) := by
  refine FCall.of_tri tbl 44 Tryd.func70 rfl rfl rfl fun w0 M ρ0 D0 => ?_
  refine yR ?_
  refine s_box SS 4 ?_
  refine s_box SS 7 ?_
  refine s_alloc SS 8 ?_
  refine e_seqN [4, 7, 8] ?_
  refine yR ?_
  refine yM ?_
  refine yI ?_
  refine yA ?_
  refine e_seq ?_
  repeat refine Tri.seq ?_
  refine Tri.block (Tri.loopW (σ := {q : Nat × Tm // q.1 ≤ hi ∧ fillM way path lo hi x = fillM way path lo q.1 q.2}) (fun i => ⟨[(1, iv .i64 lo), (4, .ptr 4 [] 112), (7, .ptr 7 [] 30), (8, .ptr 8 [] 30), (9, iv .i64 ((i.1.1 : Int) - 1))], [(4, .var 112 (.pu (siteP path way))), (7, .var 30 (.pu (tmc 0 i.1.2))), (8, .var 30 (.agg 30 [iv .i64 0, iv .i64 0, .pu (refP Z32), .nilc, .nilc]))]⟩) (fun i => i.1.1) ⟨(hi, x), Nat.le_refl _, rfl⟩ ?_ ?_ (fun i => ?_))
  · repeat (first | exact .nil | refine .cons rfl (by first | exact .refl | (focus ((repeat constructor); done)) | (rw [wrap64 (by omega) (by omega)]; exact .refl)) ?_)
  · repeat (first | exact .nil | refine .cons rfl (by first | exact .refl | (focus ((repeat constructor); done)) | (rw [wrap64 (by omega) (by omega)]; exact .refl)) ?_)
  refine yR ?_
  refine yM ?_
  refine yM ?_
  refine yI ?_
  refine e_seq ?_
  repeat refine Tri.seq ?_
  refine Tri.cond rfl (fun h0 => ?_) (fun h0 => ?_)
  · skip
    have hlj : (lo : Int) ≤ (i.1.1 : Int) - 1 := by simpa using h0
    obtain ⟨j, hj⟩ : ∃ j, i.1.1 = j + 1 := ⟨i.1.1 - 1, by omega⟩
    have hi1 := i.2.1
    have hjw : j < way.length := by omega
    have hjp : j < path.length := by omega
    have hx := tms_get (lo := 0) hjw
    have hk := hp j (by omega)
    have hkl := hw _ (List.getElem_mem hjw)
    have hpg := path_get hjp
    have hst := i.2.2
    rw [hj] at hst
    simp only [fillM, List.getElem?_eq_getElem hjw, List.getElem?_eq_getElem hjp, if_neg (show ¬ j < lo by omega)] at hst
    generalize path[j] = m at hk hpg hst
    generalize way[j] = t at hx hk hkl hst
    obtain ⟨k, n, r, ks, cs⟩ := t
    simp only [Tm.kids] at hk hkl
    have hnext := hst
    have hkt : m < (tmsc 0 ks).length := by rw [tms_length]; exact hk
    have hto : ((i.1.1 : Int) - 1).toNat = j := by omega
    refine Tri.skip ?_
    repeat refine Tri.seq ?_
    refine Tri.block ?_
    refine yR ?_
    refine yF ?_
    refine yK ?_
    refine yM ?_
    refine s_val (v_index SS (h0 := by omega) (hp := by rw [hto]; exact hx)) ?_
    refine yL ?_
    refine s_alloc SS 10 ?_
    refine yS ?_
    refine e_seqN [10] ?_
    refine yR ?_
    refine yF ?_
    refine yK ?_
    refine yC ?_
    refine s_make SS (n := (tmsc 0 ks).length) 27 (by rw [tms_length]; omega) (by rw [tms_length]; omega) ?_
    refine yA ?_
    refine e_seqN [27] ?_
    refine yR ?_
    refine yM ?_
    refine yF ?_
    refine yK ?_
    refine s_copy SS ?_
    refine e_seq ?_
    refine yR ?_
    refine yM ?_
    refine yF ?_
    refine yK ?_
    refine yM ?_
    refine s_val (v_index SS (h0 := by omega) (hp := by rw [hto]; exact hpg)) ?_
    refine yL ?_
    refine yL ?_
    refine s_val (v_ixa SS) ?_
    refine s_storeR SS (i := m) (vs := (tmsc 0 ks).map .pu) (u0 := .pu (tmc 0 ks[m])) (by simp [tms_eq, hk]) ?_
    refine e_draw ?_
    rw [tms_set]
    refine yR ?_
    refine yM ?_
    refine yF ?_
    refine yW ?_
    refine e_seq ?_
    refine yR ?_
    refine yL ?_
    refine yS ?_
    refine e_seq ?_
    refine Tri.freeze (lo := 0) (l := 27) (E := 30) (ps := tmsc 0 (ks.set m i.1.2)) (env' := [(1, iv .i64 lo), (4, .ptr 4 [] 112), (7, .ptr 7 [] 30), (8, .ptr 8 [] 30), (9, iv .i64 ((i.1.1 : Int) - 1))]) (heap' := [(4, .var 112 (.pu (siteP path way))), (7, .var 30 (.agg 30 [.pu (.leaf (.int .i64 k)), .pu (.leaf (.int .i64 n)), .pu (refP r), .pu (.sl 0 30 (tmsc 0 (ks.set m i.1.2))), .pu (.sl 0 34 (cssc 0 cs))])), (8, .var 30 (.agg 30 [iv .i64 0, iv .i64 0, .pu (refP Z32), .nilc, .nilc]))]) rfl (.inl rfl) ?_ (h2 := .cons rfl rfl rfl (.cons rfl rfl (by simp [frzOb, frzV, frzL, tms_length, tms_setl]) (.cons rfl rfl rfl .nil)))
    refine Tri.ghost (Ghost.wk (env' := [(1, iv .i64 lo), (4, .ptr 4 [] 112), (7, .ptr 7 [] 30), (8, .ptr 8 [] 30), (9, iv .i64 ((i.1.1 : Int) - 1))]) (heap' := [(4, .var 112 (.pu (siteP path way))), (7, .var 30 (.pu (tmc 0 (setKid (.mk k n r ks cs) m i.1.2)))), (8, .var 30 (.agg 30 [iv .i64 0, iv .i64 0, .pu (refP Z32), .nilc, .nilc]))]) (by repeat (first | exact .nil | refine .cons rfl .refl ?_)) (.cons rfl .refl (.cons rfl (by repeat constructor) (.cons rfl .refl .nil)))) ?_
    refine yR ?_
    refine yM ?_
    refine yI ?_
    refine yA ?_
    refine e_seq ?_
    refine ⟨⟨(j, setKid (.mk k n r ks cs) m i.1.2), by omega, hnext⟩, by show j < i.1.1; omega, le_of ?_ ?_⟩
    · repeat (first | exact SubE.nil | refine SubE.cons rfl (by first | rfl | (rw [wrap64 (by omega) (by omega)]; rfl) | (rw [wrap64 (by omega) (by omega)]; rw [show ((i.1.1 : Int) - 1 - 1) = (j : Int) - 1 by omega])) ?_)
    · repeat (first | exact SubH.nil | refine SubH.cons rfl (by first | rfl | (rw [wrap64 (by omega) (by omega)]; rfl) | (rw [wrap64 (by omega) (by omega)]; rw [show ((i.1.1 : Int) - 1 - 1) = (j : Int) - 1 by omega])) ?_)
  · skip
    have hlj : (i.1.1 : Int) - 1 < (lo : Int) := by simpa using h0
    have hfin : fillM way path lo hi x = i.1.2 := i.2.2.trans (by
      cases hq : i.1.1 with
      | zero => rfl
      | succ j => rw [hq] at hlj; simp only [fillM]; rw [if_pos (by omega)])
    refine Tri.exit ?_
    refine yR ?_
    refine yL ?_
    refine yS ?_
    refine e_seq ?_
    repeat refine Tri.seq ?_
    exact Tri.ret ⟨.inr rfl, ret1 rfl resV_cell (VImp.of_eq (congrArg (fun t => PV.pu (tmc 0 t)) hfin.symm))⟩
end Go.Proofs.YtkcgkignhpepkaaDoor

/- The place of work: found. -/
namespace Go.Proofs.YtkcgkignhpepkaaDoor
open Go Hs
variable {G : List (Nat × TypeId × Pu)}

def manyM (k : Int) (n : Nat) : Nat := if k = 4 ∨ k = 10 ∨ k = 8 then n else if k = 5 ∨ k = 9 ∨ k = 11 ∨ k = 12 then 1 else 0
abbrev woO (k : Int) (n : Int) (r : List Int) (ks : List Tm) (cs : List Cs) : List (Nat × Ob) := [(811, .var 3 (iv .i64 (manyM k ks.length : Nat))), (812, .var 30 (.pu (tmc 0 (.mk k n r ks cs))))]
abbrev woV : PV := .fn (.func 98) [] [.ptr 811 [] 3, .ptr 812 [] 30]
theorem many_iv {P : Program} {k : Int} {n : Nat} {x : Int} (h : x = (manyM k n : Nat)) : ObImp P (.var 3 (iv .i64 x)) (.var 3 (iv .i64 (manyM k n : Nat))) := ob_iv h

theorem worked_c (k n : Int) (r : List Int) (ks : List Tm) (cs : List Cs) : HCall Tryd.prog G 90 [.pu (tmc 0 (.mk k n r ks cs))] [] [] woV (woO k n r ks cs) [812, 811] := by
  refine HCall.of_triD tbl 19 [] Tryd.func90 rfl rfl rfl fun w0 M ρ0 D0 => ?_
  refine yR ?_
  refine s_box SS 812 ?_
  refine yB ?_
  refine e_seqN [812] ?_
  refine yR ?_
  refine s_alloc SS 811 ?_
  refine yS ?_
  refine e_seqN [811] ?_
  refine yR ?_
  refine yF ?_
  refine yL ?_
  refine e_seq ?_
  repeat refine Tri.seq ?_
  refine Tri.block ?_
  refine yR ?_
  refine yI ?_
  refine yA ?_
  refine e_seq ?_
  repeat refine Tri.seq ?_
  refine Tri.cond rfl (fun h0 => ?_) (fun h0 => ?_)
  · skip
    refine Tri.skip ?_
    repeat refine Tri.seq ?_
    refine Tri.cond rfl (fun h2 => ?_) (fun h2 => ?_)
    · skip
      refine yR ?_
      refine yF ?_
      refine yK ?_
      refine yC ?_
      refine yS ?_
      refine e_seq ?_
      refine yR ?_
      refine s_val (v_mkFnD SS) ?_
      refine yA ?_
      refine e_seq ?_
      repeat refine Tri.seq ?_
      exact Tri.ret ⟨.inr rfl, ret1 rfl resV_tmp (VImp.refl _), .cons rfl (many_iv (by simp only [beq_iff_eq, beq_eq_false_iff_ne, ne_eq] at *; first | (simp_all [manyM, tms_length]; done) | (simp only [tms_length]; simp_all [manyM]))) (.cons rfl (ObImp.refl _) .nil)⟩
    · skip
      refine yR ?_
      refine yI ?_
      refine yA ?_
      refine e_seq ?_
      repeat refine Tri.seq ?_
      refine Tri.cond rfl (fun h3 => ?_) (fun h3 => ?_)
      · skip
        refine Tri.skip ?_
        repeat refine Tri.seq ?_
        refine Tri.cond rfl (fun h6 => ?_) (fun h6 => ?_)
        · skip
          refine yR ?_
          refine yS ?_
          refine e_seq ?_
          refine yR ?_
          refine s_val (v_mkFnD SS) ?_
          refine yA ?_
          refine e_seq ?_
          repeat refine Tri.seq ?_
          exact Tri.ret ⟨.inr rfl, ret1 rfl resV_tmp (VImp.refl _), .cons rfl (many_iv (by simp only [beq_iff_eq, beq_eq_false_iff_ne, ne_eq] at *; first | (simp_all [manyM, tms_length]; done) | (simp only [tms_length]; simp_all [manyM]))) (.cons rfl (ObImp.refl _) .nil)⟩
        · skip
          refine Tri.skip ?_
          refine yR ?_
          refine s_val (v_mkFnD SS) ?_
          refine yA ?_
          refine e_seq ?_
          repeat refine Tri.seq ?_
          exact Tri.ret ⟨.inr rfl, ret1 rfl resV_tmp (VImp.refl _), .cons rfl (many_iv (by simp only [beq_iff_eq, beq_eq_false_iff_ne, ne_eq] at *; first | (simp_all [manyM, tms_length]; done) | (simp only [tms_length]; simp_all [manyM]))) (.cons rfl (ObImp.refl _) .nil)⟩
      · skip
        refine yR ?_
        refine yI ?_
        refine yA ?_
        refine e_seq ?_
        repeat refine Tri.seq ?_
        refine Tri.cond rfl (fun h4 => ?_) (fun h4 => ?_)
        · skip
          refine Tri.skip ?_
          repeat refine Tri.seq ?_
          refine Tri.cond rfl (fun h6 => ?_) (fun h6 => ?_)
          · skip
            refine yR ?_
            refine yS ?_
            refine e_seq ?_
            refine yR ?_
            refine s_val (v_mkFnD SS) ?_
            refine yA ?_
            refine e_seq ?_
            repeat refine Tri.seq ?_
            exact Tri.ret ⟨.inr rfl, ret1 rfl resV_tmp (VImp.refl _), .cons rfl (many_iv (by simp only [beq_iff_eq, beq_eq_false_iff_ne, ne_eq] at *; first | (simp_all [manyM, tms_length]; done) | (simp only [tms_length]; simp_all [manyM]))) (.cons rfl (ObImp.refl _) .nil)⟩
          · skip
            refine Tri.skip ?_
            refine yR ?_
            refine s_val (v_mkFnD SS) ?_
            refine yA ?_
            refine e_seq ?_
            repeat refine Tri.seq ?_
            exact Tri.ret ⟨.inr rfl, ret1 rfl resV_tmp (VImp.refl _), .cons rfl (many_iv (by simp only [beq_iff_eq, beq_eq_false_iff_ne, ne_eq] at *; first | (simp_all [manyM, tms_length]; done) | (simp only [tms_length]; simp_all [manyM]))) (.cons rfl (ObImp.refl _) .nil)⟩
        · skip
          refine yR ?_
          refine yI ?_
          refine yA ?_
          refine e_seq ?_
          repeat refine Tri.seq ?_
          refine Tri.cond rfl (fun h5 => ?_) (fun h5 => ?_)
          · skip
            refine Tri.skip ?_
            repeat refine Tri.seq ?_
            refine Tri.cond rfl (fun h6 => ?_) (fun h6 => ?_)
            · skip
              refine yR ?_
              refine yS ?_
              refine e_seq ?_
              refine yR ?_
              refine s_val (v_mkFnD SS) ?_
              refine yA ?_
              refine e_seq ?_
              repeat refine Tri.seq ?_
              exact Tri.ret ⟨.inr rfl, ret1 rfl resV_tmp (VImp.refl _), .cons rfl (many_iv (by simp only [beq_iff_eq, beq_eq_false_iff_ne, ne_eq] at *; first | (simp_all [manyM, tms_length]; done) | (simp only [tms_length]; simp_all [manyM]))) (.cons rfl (ObImp.refl _) .nil)⟩
            · skip
              refine Tri.skip ?_
              refine yR ?_
              refine s_val (v_mkFnD SS) ?_
              refine yA ?_
              refine e_seq ?_
              repeat refine Tri.seq ?_
              exact Tri.ret ⟨.inr rfl, ret1 rfl resV_tmp (VImp.refl _), .cons rfl (many_iv (by simp only [beq_iff_eq, beq_eq_false_iff_ne, ne_eq] at *; first | (simp_all [manyM, tms_length]; done) | (simp only [tms_length]; simp_all [manyM]))) (.cons rfl (ObImp.refl _) .nil)⟩
          · skip
            refine yR ?_
            refine yI ?_
            refine yA ?_
            refine e_seq ?_
            repeat refine Tri.seq ?_
            refine Tri.cond rfl (fun h6 => ?_) (fun h6 => ?_)
            · skip
              refine yR ?_
              refine yS ?_
              refine e_seq ?_
              refine yR ?_
              refine s_val (v_mkFnD SS) ?_
              refine yA ?_
              refine e_seq ?_
              repeat refine Tri.seq ?_
              exact Tri.ret ⟨.inr rfl, ret1 rfl resV_tmp (VImp.refl _), .cons rfl (many_iv (by simp only [beq_iff_eq, beq_eq_false_iff_ne, ne_eq] at *; first | (simp_all [manyM, tms_length]; done) | (simp only [tms_length]; simp_all [manyM]))) (.cons rfl (ObImp.refl _) .nil)⟩
            · skip
              refine Tri.skip ?_
              refine yR ?_
              refine s_val (v_mkFnD SS) ?_
              refine yA ?_
              refine e_seq ?_
              repeat refine Tri.seq ?_
              exact Tri.ret ⟨.inr rfl, ret1 rfl resV_tmp (VImp.refl _), .cons rfl (many_iv (by simp only [beq_iff_eq, beq_eq_false_iff_ne, ne_eq] at *; first | (simp_all [manyM, tms_length]; done) | (simp only [tms_length]; simp_all [manyM]))) (.cons rfl (ObImp.refl _) .nil)⟩
  · skip
    refine yR ?_
    refine yI ?_
    refine yA ?_
    refine e_seq ?_
    repeat refine Tri.seq ?_
    refine Tri.cond rfl (fun h1 => ?_) (fun h1 => ?_)
    · skip
      refine Tri.skip ?_
      repeat refine Tri.seq ?_
      refine Tri.cond rfl (fun h2 => ?_) (fun h2 => ?_)
      · skip
        refine yR ?_
        refine yF ?_
        refine yK ?_
        refine yC ?_
        refine yS ?_
        refine e_seq ?_
        refine yR ?_
        refine s_val (v_mkFnD SS) ?_
        refine yA ?_
        refine e_seq ?_
        repeat refine Tri.seq ?_
        exact Tri.ret ⟨.inr rfl, ret1 rfl resV_tmp (VImp.refl _), .cons rfl (many_iv (by simp only [beq_iff_eq, beq_eq_false_iff_ne, ne_eq] at *; first | (simp_all [manyM, tms_length]; done) | (simp only [tms_length]; simp_all [manyM]))) (.cons rfl (ObImp.refl _) .nil)⟩
      · skip
        refine yR ?_
        refine yI ?_
        refine yA ?_
        refine e_seq ?_
        repeat refine Tri.seq ?_
        refine Tri.cond rfl (fun h3 => ?_) (fun h3 => ?_)
        · skip
          refine Tri.skip ?_
          repeat refine Tri.seq ?_
          refine Tri.cond rfl (fun h6 => ?_) (fun h6 => ?_)
          · skip
            refine yR ?_
            refine yS ?_
            refine e_seq ?_
            refine yR ?_
            refine s_val (v_mkFnD SS) ?_
            refine yA ?_
            refine e_seq ?_
            repeat refine Tri.seq ?_
            exact Tri.ret ⟨.inr rfl, ret1 rfl resV_tmp (VImp.refl _), .cons rfl (many_iv (by simp only [beq_iff_eq, beq_eq_false_iff_ne, ne_eq] at *; first | (simp_all [manyM, tms_length]; done) | (simp only [tms_length]; simp_all [manyM]))) (.cons rfl (ObImp.refl _) .nil)⟩
          · skip
            refine Tri.skip ?_
            refine yR ?_
            refine s_val (v_mkFnD SS) ?_
            refine yA ?_
            refine e_seq ?_
            repeat refine Tri.seq ?_
            exact Tri.ret ⟨.inr rfl, ret1 rfl resV_tmp (VImp.refl _), .cons rfl (many_iv (by simp only [beq_iff_eq, beq_eq_false_iff_ne, ne_eq] at *; first | (simp_all [manyM, tms_length]; done) | (simp only [tms_length]; simp_all [manyM]))) (.cons rfl (ObImp.refl _) .nil)⟩
        · skip
          refine yR ?_
          refine yI ?_
          refine yA ?_
          refine e_seq ?_
          repeat refine Tri.seq ?_
          refine Tri.cond rfl (fun h4 => ?_) (fun h4 => ?_)
          · skip
            refine Tri.skip ?_
            repeat refine Tri.seq ?_
            refine Tri.cond rfl (fun h6 => ?_) (fun h6 => ?_)
            · skip
              refine yR ?_
              refine yS ?_
              refine e_seq ?_
              refine yR ?_
              refine s_val (v_mkFnD SS) ?_
              refine yA ?_
              refine e_seq ?_
              repeat refine Tri.seq ?_
              exact Tri.ret ⟨.inr rfl, ret1 rfl resV_tmp (VImp.refl _), .cons rfl (many_iv (by simp only [beq_iff_eq, beq_eq_false_iff_ne, ne_eq] at *; first | (simp_all [manyM, tms_length]; done) | (simp only [tms_length]; simp_all [manyM]))) (.cons rfl (ObImp.refl _) .nil)⟩
            · skip
              refine Tri.skip ?_
              refine yR ?_
              refine s_val (v_mkFnD SS) ?_
              refine yA ?_
              refine e_seq ?_
              repeat refine Tri.seq ?_
              exact Tri.ret ⟨.inr rfl, ret1 rfl resV_tmp (VImp.refl _), .cons rfl (many_iv (by simp only [beq_iff_eq, beq_eq_false_iff_ne, ne_eq] at *; first | (simp_all [manyM, tms_length]; done) | (simp only [tms_length]; simp_all [manyM]))) (.cons rfl (ObImp.refl _) .nil)⟩
          · skip
            refine yR ?_
            refine yI ?_
            refine yA ?_
            refine e_seq ?_
            repeat refine Tri.seq ?_
            refine Tri.cond rfl (fun h5 => ?_) (fun h5 => ?_)
            · skip
              refine Tri.skip ?_
              repeat refine Tri.seq ?_
              refine Tri.cond rfl (fun h6 => ?_) (fun h6 => ?_)
              · skip
                refine yR ?_
                refine yS ?_
                refine e_seq ?_
                refine yR ?_
                refine s_val (v_mkFnD SS) ?_
                refine yA ?_
                refine e_seq ?_
                repeat refine Tri.seq ?_
                exact Tri.ret ⟨.inr rfl, ret1 rfl resV_tmp (VImp.refl _), .cons rfl (many_iv (by simp only [beq_iff_eq, beq_eq_false_iff_ne, ne_eq] at *; first | (simp_all [manyM, tms_length]; done) | (simp only [tms_length]; simp_all [manyM]))) (.cons rfl (ObImp.refl _) .nil)⟩
              · skip
                refine Tri.skip ?_
                refine yR ?_
                refine s_val (v_mkFnD SS) ?_
                refine yA ?_
                refine e_seq ?_
                repeat refine Tri.seq ?_
                exact Tri.ret ⟨.inr rfl, ret1 rfl resV_tmp (VImp.refl _), .cons rfl (many_iv (by simp only [beq_iff_eq, beq_eq_false_iff_ne, ne_eq] at *; first | (simp_all [manyM, tms_length]; done) | (simp only [tms_length]; simp_all [manyM]))) (.cons rfl (ObImp.refl _) .nil)⟩
            · skip
              refine yR ?_
              refine yI ?_
              refine yA ?_
              refine e_seq ?_
              repeat refine Tri.seq ?_
              refine Tri.cond rfl (fun h6 => ?_) (fun h6 => ?_)
              · skip
                refine yR ?_
                refine yS ?_
                refine e_seq ?_
                refine yR ?_
                refine s_val (v_mkFnD SS) ?_
                refine yA ?_
                refine e_seq ?_
                repeat refine Tri.seq ?_
                exact Tri.ret ⟨.inr rfl, ret1 rfl resV_tmp (VImp.refl _), .cons rfl (many_iv (by simp only [beq_iff_eq, beq_eq_false_iff_ne, ne_eq] at *; first | (simp_all [manyM, tms_length]; done) | (simp only [tms_length]; simp_all [manyM]))) (.cons rfl (ObImp.refl _) .nil)⟩
              · skip
                refine Tri.skip ?_
                refine yR ?_
                refine s_val (v_mkFnD SS) ?_
                refine yA ?_
                refine e_seq ?_
                repeat refine Tri.seq ?_
                exact Tri.ret ⟨.inr rfl, ret1 rfl resV_tmp (VImp.refl _), .cons rfl (many_iv (by simp only [beq_iff_eq, beq_eq_false_iff_ne, ne_eq] at *; first | (simp_all [manyM, tms_length]; done) | (simp only [tms_length]; simp_all [manyM]))) (.cons rfl (ObImp.refl _) .nil)⟩
    · skip
      refine yR ?_
      refine yI ?_
      refine yA ?_
      refine e_seq ?_
      repeat refine Tri.seq ?_
      refine Tri.cond rfl (fun h2 => ?_) (fun h2 => ?_)
      · skip
        refine yR ?_
        refine yF ?_
        refine yK ?_
        refine yC ?_
        refine yS ?_
        refine e_seq ?_
        refine yR ?_
        refine s_val (v_mkFnD SS) ?_
        refine yA ?_
        refine e_seq ?_
        repeat refine Tri.seq ?_
        exact Tri.ret ⟨.inr rfl, ret1 rfl resV_tmp (VImp.refl _), .cons rfl (many_iv (by simp only [beq_iff_eq, beq_eq_false_iff_ne, ne_eq] at *; first | (simp_all [manyM, tms_length]; done) | (simp only [tms_length]; simp_all [manyM]))) (.cons rfl (ObImp.refl _) .nil)⟩
      · skip
        refine yR ?_
        refine yI ?_
        refine yA ?_
        refine e_seq ?_
        repeat refine Tri.seq ?_
        refine Tri.cond rfl (fun h3 => ?_) (fun h3 => ?_)
        · skip
          refine Tri.skip ?_
          repeat refine Tri.seq ?_
          refine Tri.cond rfl (fun h6 => ?_) (fun h6 => ?_)
          · skip
            refine yR ?_
            refine yS ?_
            refine e_seq ?_
            refine yR ?_
            refine s_val (v_mkFnD SS) ?_
            refine yA ?_
            refine e_seq ?_
            repeat refine Tri.seq ?_
            exact Tri.ret ⟨.inr rfl, ret1 rfl resV_tmp (VImp.refl _), .cons rfl (many_iv (by simp only [beq_iff_eq, beq_eq_false_iff_ne, ne_eq] at *; first | (simp_all [manyM, tms_length]; done) | (simp only [tms_length]; simp_all [manyM]))) (.cons rfl (ObImp.refl _) .nil)⟩
          · skip
            refine Tri.skip ?_
            refine yR ?_
            refine s_val (v_mkFnD SS) ?_
            refine yA ?_
            refine e_seq ?_
            repeat refine Tri.seq ?_
            exact Tri.ret ⟨.inr rfl, ret1 rfl resV_tmp (VImp.refl _), .cons rfl (many_iv (by simp only [beq_iff_eq, beq_eq_false_iff_ne, ne_eq] at *; first | (simp_all [manyM, tms_length]; done) | (simp only [tms_length]; simp_all [manyM]))) (.cons rfl (ObImp.refl _) .nil)⟩
        · skip
          refine yR ?_
          refine yI ?_
          refine yA ?_
          refine e_seq ?_
          repeat refine Tri.seq ?_
          refine Tri.cond rfl (fun h4 => ?_) (fun h4 => ?_)
          · skip
            refine Tri.skip ?_
            repeat refine Tri.seq ?_
            refine Tri.cond rfl (fun h6 => ?_) (fun h6 => ?_)
            · skip
              refine yR ?_
              refine yS ?_
              refine e_seq ?_
              refine yR ?_
              refine s_val (v_mkFnD SS) ?_
              refine yA ?_
              refine e_seq ?_
              repeat refine Tri.seq ?_
              exact Tri.ret ⟨.inr rfl, ret1 rfl resV_tmp (VImp.refl _), .cons rfl (many_iv (by simp only [beq_iff_eq, beq_eq_false_iff_ne, ne_eq] at *; first | (simp_all [manyM, tms_length]; done) | (simp only [tms_length]; simp_all [manyM]))) (.cons rfl (ObImp.refl _) .nil)⟩
            · skip
              refine Tri.skip ?_
              refine yR ?_
              refine s_val (v_mkFnD SS) ?_
              refine yA ?_
              refine e_seq ?_
              repeat refine Tri.seq ?_
              exact Tri.ret ⟨.inr rfl, ret1 rfl resV_tmp (VImp.refl _), .cons rfl (many_iv (by simp only [beq_iff_eq, beq_eq_false_iff_ne, ne_eq] at *; first | (simp_all [manyM, tms_length]; done) | (simp only [tms_length]; simp_all [manyM]))) (.cons rfl (ObImp.refl _) .nil)⟩
          · skip
            refine yR ?_
            refine yI ?_
            refine yA ?_
            refine e_seq ?_
            repeat refine Tri.seq ?_
            refine Tri.cond rfl (fun h5 => ?_) (fun h5 => ?_)
            · skip
              refine Tri.skip ?_
              repeat refine Tri.seq ?_
              refine Tri.cond rfl (fun h6 => ?_) (fun h6 => ?_)
              · skip
                refine yR ?_
                refine yS ?_
                refine e_seq ?_
                refine yR ?_
                refine s_val (v_mkFnD SS) ?_
                refine yA ?_
                refine e_seq ?_
                repeat refine Tri.seq ?_
                exact Tri.ret ⟨.inr rfl, ret1 rfl resV_tmp (VImp.refl _), .cons rfl (many_iv (by simp only [beq_iff_eq, beq_eq_false_iff_ne, ne_eq] at *; first | (simp_all [manyM, tms_length]; done) | (simp only [tms_length]; simp_all [manyM]))) (.cons rfl (ObImp.refl _) .nil)⟩
              · skip
                refine Tri.skip ?_
                refine yR ?_
                refine s_val (v_mkFnD SS) ?_
                refine yA ?_
                refine e_seq ?_
                repeat refine Tri.seq ?_
                exact Tri.ret ⟨.inr rfl, ret1 rfl resV_tmp (VImp.refl _), .cons rfl (many_iv (by simp only [beq_iff_eq, beq_eq_false_iff_ne, ne_eq] at *; first | (simp_all [manyM, tms_length]; done) | (simp only [tms_length]; simp_all [manyM]))) (.cons rfl (ObImp.refl _) .nil)⟩
            · skip
              refine yR ?_
              refine yI ?_
              refine yA ?_
              refine e_seq ?_
              repeat refine Tri.seq ?_
              refine Tri.cond rfl (fun h6 => ?_) (fun h6 => ?_)
              · skip
                refine yR ?_
                refine yS ?_
                refine e_seq ?_
                refine yR ?_
                refine s_val (v_mkFnD SS) ?_
                refine yA ?_
                refine e_seq ?_
                repeat refine Tri.seq ?_
                exact Tri.ret ⟨.inr rfl, ret1 rfl resV_tmp (VImp.refl _), .cons rfl (many_iv (by simp only [beq_iff_eq, beq_eq_false_iff_ne, ne_eq] at *; first | (simp_all [manyM, tms_length]; done) | (simp only [tms_length]; simp_all [manyM]))) (.cons rfl (ObImp.refl _) .nil)⟩
              · skip
                refine Tri.skip ?_
                refine yR ?_
                refine s_val (v_mkFnD SS) ?_
                refine yA ?_
                refine e_seq ?_
                repeat refine Tri.seq ?_
                exact Tri.ret ⟨.inr rfl, ret1 rfl resV_tmp (VImp.refl _), .cons rfl (many_iv (by simp only [beq_iff_eq, beq_eq_false_iff_ne, ne_eq] at *; first | (simp_all [manyM, tms_length]; done) | (simp only [tms_length]; simp_all [manyM]))) (.cons rfl (ObImp.refl _) .nil)⟩

/-- The objects of the loop: the term where one is, and the path to it. -/
abbrev plO (acc : List Nat) (t : Tm) : List (Nat × Ob) := [(1, .var 30 (.pu (tmc 0 t))), (3, .var 73 (.ow 0 3 (pathL acc)))]
structure Wi where
  i : Nat
  t : Tm
def wiL (t : Tm) : List Wi := match t with
  | .mk k _ _ ks _ => (ks.take (manyM k ks.length)).mapIdx fun i x => ⟨i, x⟩
def wiE (x : Wi) : List PV := [iv .i64 x.i, .pu (tmc 0 x.t)]
def wOut (x : Wi) : Option Wi := if valM x.t then none else some x
def wOb (acc : List Nat) (x : Wi) : List (Nat × Ob) := plO (acc ++ [x.i]) x.t
def rOfX (c : Code) (r : Loop) : Option Wi → Loop
  | none => r
  | some _ => doneL r c
def aOf (acc : List Nat) : Option Wi → List Nat
  | none => acc
  | some x => acc ++ [x.i]
def tOf (t : Tm) : Option Wi → Tm
  | none => t
  | some x => x.t
theorem yc_w {P : Program} {X : Ctx} {l lam : Nat} {r : Loop} {HR : List (Nat × Ob)} {out : Wi → Option Wi} {acc : List Nat} {t : Tm} {c : Code} {x : Wi} (h : YC P X l lam r HR (plO acc t) wiE out (fun _ => c) (wOb acc) x) :
    YCall P X l (wiE x) HR ((lam, .loop r) :: plO acc t) (bv (out x).isNone) [(lam, .loop (rOfX c r (out x))), (1, .var 30 (.pu (tmc 0 (tOf t (out x))))), (3, .var 73 (.ow 0 3 (pathL (aOf acc (out x)))))] := by
  unfold YC at h
  cases ho : out x with
  | none => rw [ho] at h; exact h
  | some e => rw [ho] at h; exact h

theorem worked1_c (k n : Int) (r : List Int) (ks : List Tm) (cs : List Cs) (hm : manyM k ks.length ≤ ks.length) (hl : ks.length < 2^40) (acc : List Nat) (out : Wi → Option Wi) :
    IterC Tryd.prog G 98 [.ptr 811 [] 3, .ptr 812 [] 30] 900 [811, 812, 1, 3, 900] (woO k n r ks cs) (plO acc (.mk k n r ks cs)) (wiL (.mk k n r ks cs)) wiE out (fun _ => .exit 1) (wOb acc) := by
  refine IterC.of_tri tbl 19 Tryd.func98 rfl rfl (fun r z => by cases z <;> rfl) fun l rc w0 M ρ0 D0 hy => ?_
  have hL : (wiL (.mk k n r ks cs)).length = manyM k ks.length := by simp [wiL]; omega
  have hk : ∀ i (hi : i < manyM k ks.length), (wiL (.mk k n r ks cs))[i]'(by omega) = ⟨i, ks[i]'(by omega)⟩ := fun i hi => by simp [wiL]
  refine yR ?_
  refine yL ?_
  refine yJ ?_
  refine e_seq ?_
  repeat refine Tri.seq ?_
  refine Tri.block (Tri.loopW (σ := {i : Nat // ∀ j (hj : j < i) (h : j < manyM k ks.length), out ⟨j, ks[j]'(by omega)⟩ = none}) (fun i => ⟨[(0, .fn (.yield l) [] []), (2, .ptr 812 [] 30), (5, iv .i64 (manyM k ks.length : Nat)), (6, iv .i64 i.1)], [(811, .var 3 (iv .i64 (manyM k ks.length : Nat))), (812, .var 30 (.pu (tmc 0 (.mk k n r ks cs)))), (900, .loop rc), (1, .var 30 (.pu (tmc 0 (.mk k n r ks cs)))), (3, .var 73 (.ow 0 3 (pathL acc)))]⟩) (fun i => manyM k ks.length - i.1) ⟨0, by intro j hj; omega⟩ ?_ ?_ (fun i => ?_))
  · exact zW
  · exact zW
  refine yR ?_
  refine yI ?_
  refine e_seq ?_
  repeat refine Tri.seq ?_
  refine Tri.cond rfl (fun h0 => ?_) (fun h0 => ?_)
  · skip
    have hi : i.1 < manyM k ks.length := by simpa using h0
    have hi' : i.1 < ks.length := by omega
    have hy' := yc_w (hy ⟨i.1, ks[i.1]⟩ (by rw [← hk i.1 hi]; exact List.getElem_mem _))
    refine Tri.skip ?_
    repeat refine Tri.seq ?_
    refine Tri.block ?_
    refine yR ?_
    refine yM ?_
    refine yA ?_
    refine e_seq ?_
    refine yR ?_
    refine yM ?_
    refine yM ?_
    refine yF ?_
    refine yK ?_
    refine yM ?_
    refine s_val (v_index SS (h0 := by omega) (hp := tms_get hi')) ?_
    refine yL ?_
    refine s_yield hy' ?_
    refine yQ ?_
    refine e_seq ?_
    repeat refine Tri.seq ?_
    refine Tri.cond rfl (fun h1 => ?_) (fun h1 => ?_)
    · skip
      obtain ⟨e, he⟩ : ∃ e, out ⟨i.1, ks[i.1]⟩ = some e := by
        cases ho : out ⟨i.1, ks[i.1]⟩ with
        | none => rw [ho] at h1; cases h1
        | some e => exact ⟨e, rfl⟩
      have hfin : (wiL (.mk k n r ks cs)).findSome? out = some e := find_at (i := i.1) (by rw [hL]; omega) (fun j hj => by rw [hk j (by omega)]; exact i.2 j hj (by omega)) (by rw [hk i.1 hi]; exact he)
      rw [hfin]
      repeat refine Tri.seq ?_
      exact Tri.ret ⟨.inr rfl, ret0, .cons rfl (by rw [he]; exact ObImp.refl _) (.cons rfl (by rw [he]; exact ObImp.refl _) (.cons rfl (by rw [he]; exact ObImp.refl _) .nil))⟩
    · skip
      have he : out ⟨i.1, ks[i.1]⟩ = none := by
        cases ho : out ⟨i.1, ks[i.1]⟩ with
        | none => rfl
        | some e => rw [ho] at h1; cases h1
      have hnext : ∀ j (hj : j < i.1 + 1) (h : j < manyM k ks.length), out ⟨j, ks[j]'(by omega)⟩ = none := fun j hj h => by
        rcases Nat.lt_or_ge j i.1 with h' | h'
        · exact i.2 j h' h
        · obtain rfl : j = i.1 := by omega
          exact he
      refine Tri.skip ?_
      refine yR ?_
      refine yI ?_
      refine yM ?_
      refine e_seq ?_
      refine ⟨⟨i.1 + 1, hnext⟩, by show manyM k ks.length - (i.1 + 1) < manyM k ks.length - i.1; omega, le_of ?_ ?_⟩
      · repeat (first | exact SubE.nil | refine SubE.cons rfl (by first | rfl | (rw [wrap64 (by omega) (by omega)]; rfl) | (rw [he]; rfl)) ?_)
      · repeat (first | exact SubH.nil | refine SubH.cons rfl (by first | rfl | (rw [wrap64 (by omega) (by omega)]; rfl) | (rw [he]; rfl)) ?_)
  · skip
    have hfin : (wiL (.mk k n r ks cs)).findSome? out = none := find_none fun j hj => by
      rw [hL] at hj
      rw [hk j hj]; exact i.2 j (by simp at h0; omega) hj
    rw [hfin]
    refine Tri.exit ?_
    exact ⟨.inl rfl, ret0, .cons rfl (ObImp.refl _) (.cons rfl (ObImp.refl _) (.cons rfl (ObImp.refl _) .nil))⟩
end Go.Proofs.YtkcgkignhpepkaaDoor

/- The path to the place of work. -/
namespace Go.Proofs.YtkcgkignhpepkaaDoor
open Go Hs
variable {G : List (Nat × TypeId × Pu)}

mutual
def shT : Tm → Prop
  | .mk k n _ ks cs => kidsM k ks.length = true ∧ (k = 11 → 0 ≤ n ∧ n ≤ 7) ∧ shL ks ∧ shC cs
def shL : List Tm → Prop
  | [] => True
  | t :: ts => shT t ∧ shL ts
def shC : List Cs → Prop
  | [] => True
  | c :: cs => shS c ∧ shC cs
def shS : Cs → Prop
  | .mk _ t => shT t
end
theorem shL_mem : ∀ {ks : List Tm}, shL ks → ∀ k ∈ ks, shT k
  | [], _, k, h => by cases h
  | p :: ps, h, k, hk => by
    rcases List.mem_cons.1 hk with rfl | hk
    · exact h.1
    · exact shL_mem h.2 k hk
theorem many_le {k : Int} {n : Nat} (h : kidsM k n = true) : manyM k n ≤ n := by
  unfold manyM
  split
  · omega
  · split
    · rename_i h1
      unfold kidsM offM at h
      rcases h1 with rfl | rfl | rfl | rfl <;> simp at h <;> omega
    · omega

mutual
def placeM : Tm → List Nat
  | .mk k _ _ ks _ => placeL (manyM k ks.length) 0 ks
def placeL (many i : Nat) : List Tm → List Nat
  | [] => []
  | t :: ts => if i < many then (if valM t then placeL many (i + 1) ts else i :: placeM t) else []
end
mutual
theorem place_len : ∀ t : Tm, (placeM t).length + 1 ≤ tsize t
  | .mk k _ _ ks cs => by
    have := placeL_len (manyM k ks.length) 0 ks
    simp only [placeM, tsize]; omega
theorem placeL_len (many i : Nat) : ∀ ks : List Tm, (placeL many i ks).length ≤ tsizeL ks
  | [] => by simp [placeL]
  | t :: ts => by
    have h1 := place_len t
    have h2 := placeL_len many (i + 1) ts
    simp only [placeL, tsizeL]
    split
    · split
      · omega
      · simp; omega
    · simp
end
theorem zP (many : Nat) : ∀ (ks : List Tm) (i : Nat), match ((ks.take (many - i)).mapIdx fun j x => (⟨i + j, x⟩ : Wi)).findSome? wOut with
    | none => placeL many i ks = []
    | some z => placeL many i ks = z.i :: placeM z.t ∧ i ≤ z.i ∧ ks[z.i - i]? = some z.t ∧ valM z.t = false
  | [], i => by simp [placeL]
  | t :: ts, i => by
    by_cases hi : i < many
    · obtain ⟨d, hd⟩ : ∃ d, many - i = d + 1 := ⟨many - i - 1, by omega⟩
      have ih := zP many ts (i + 1)
      rw [show many - (i + 1) = d by omega] at ih
      rw [hd]
      simp only [List.take_succ_cons, List.mapIdx_cons, List.findSome?_cons, Nat.add_zero, placeL, if_pos hi]
      have e : (fun (j : Nat) (x : Tm) => (⟨i + (j + 1), x⟩ : Wi)) = fun j x => ⟨i + 1 + j, x⟩ := by funext j x; rw [show i + (j + 1) = i + 1 + j by omega]
      rw [e]
      by_cases hv : valM t = true
      · rw [show wOut ⟨i, t⟩ = none by simp [wOut, hv]]
        simp only [hv, if_true]
        generalize hq : ((ts.take d).mapIdx fun j x => (⟨i + 1 + j, x⟩ : Wi)).findSome? wOut = q at ih ⊢
        cases q with
        | none => exact ih
        | some z =>
          obtain ⟨h1, h2, h3, h4⟩ := ih
          refine ⟨h1, by omega, ?_, h4⟩
          rw [show z.i - i = (z.i - (i + 1)) + 1 by omega]
          simpa using h3
      · rw [show wOut ⟨i, t⟩ = some ⟨i, t⟩ by simp [wOut, hv]]
        simp [hv]
    · rw [show many - i = 0 by omega]
      simp [placeL, hi]
theorem place_none {k n : Int} {r : List Int} {ks : List Tm} {cs : List Cs} (h : (wiL (.mk k n r ks cs)).findSome? wOut = none) : placeM (.mk k n r ks cs) = [] := by
  have := zP (manyM k ks.length) ks 0
  simp only [Nat.sub_zero, Nat.zero_add] at this
  unfold wiL at h
  rw [h] at this
  exact this
theorem place_some {k n : Int} {r : List Int} {ks : List Tm} {cs : List Cs} {z : Wi} (h : (wiL (.mk k n r ks cs)).findSome? wOut = some z) : placeM (.mk k n r ks cs) = z.i :: placeM z.t ∧ ks[z.i]? = some z.t ∧ valM z.t = false := by
  have := zP (manyM k ks.length) ks 0
  simp only [Nat.sub_zero, Nat.zero_add] at this
  unfold wiL at h
  rw [h] at this
  exact ⟨this.1, this.2.2⟩
theorem pathL_append (a b : List Nat) : pathL (a ++ b) = pathL a ++ pathL b := by simp [pathL]
theorem wi_mem {k n : Int} {r : List Int} {ks : List Tm} {cs : List Cs} {x : Wi} (h : x ∈ wiL (.mk k n r ks cs)) : x.t ∈ ks := by
  unfold wiL at h
  obtain ⟨i, hi, rfl⟩ := List.mem_mapIdx.1 h
  exact List.mem_of_mem_take (List.getElem_mem _)

theorem place_c (t0 : Tm) (hs0 : shT t0) (hN : tsize t0 < 2^30) : FCall Tryd.prog G 67 [.pu (tmc 0 t0)] (.pu (.sl 0 3 (pathL (placeM t0)))) := by
  have hpl := place_len t0
  refine FCall.of_tri tbl 19 Tryd.func67 rfl rfl rfl fun w0 M ρ0 D0 => ?_
  refine yR ?_
  refine s_box SS 1 ?_
  refine yB ?_
  refine e_seqN [1] ?_
  repeat refine Tri.seq ?_
  refine Tri.scope ?_
  refine yR ?_
  refine s_alloc SS 3 ?_
  refine e_seqN [3] ?_
  repeat refine Tri.seq ?_
  refine Tri.label ?_
  repeat refine Tri.seq ?_
  refine Tri.block (Tri.loopW (σ := {q : List Nat × Tm // q.1 ++ placeM q.2 = placeM t0 ∧ shT q.2 ∧ tsize q.2 ≤ tsize t0}) (fun i => ⟨[(1, .ptr 1 [] 30), (3, .ptr 3 [] 73)], [(1, .var 30 (.pu (tmc 0 i.1.2))), (3, .var 73 (.ow 0 3 (pathL i.1.1)))]⟩) (fun i => tsize i.1.2) ⟨([], t0), rfl, hs0, Nat.le_refl _⟩ ?_ ?_ (fun i => ?_))
  · exact zW
  · exact zW
  repeat refine Tri.seq ?_
  refine Tri.block ?_
  obtain ⟨⟨acc, k, n, r, ks, cs⟩, hacc, hsh, hsz⟩ := i
  dsimp only at hacc hsh hsz ⊢
  have hsz' := hsz
  simp only [shT] at hsh
  simp only [tsize] at hsz'
  have hlen := length_tsizeL ks
  have hal := congrArg List.length hacc
  simp only [List.length_append] at hal
  refine yR ?_
  refine yL ?_
  refine s_call (worked_c k n r ks cs) ?_
  refine e_seqN [812, 811] ?_
  repeat refine Tri.seq ?_
  refine Tri.block ?_
  repeat refine Tri.seq ?_
  refine Tri.overFunc 900 [811, 812, 1, 3, 900] [1, 3, 900] [(1, .ptr 1 [] 30), (3, .ptr 3 [] 73)] (worked1_c k n r ks cs (many_le hsh.1) (by omega) acc wOut) (by intro x _; rfl) (fun x hx r w0 M ρ0 D0 l => ?_) (fun hdone => ?_) (fun z hz => ?_)
  · skip
    refine yR ?_
    refine yA ?_
    refine e_seq ?_
    refine yR ?_
    refine s_alloc SS 5 ?_
    refine yS ?_
    refine e_seqN [5] ?_
    refine ⟨rfl, ?_⟩
    have hxm := tsize_mem (wi_mem hx)
    repeat refine Tri.seq ?_
    refine Tri.block ?_
    refine yR ?_
    refine yL ?_
    refine s_val (v_callD (fun _ => value_c _ x.t (Nat.le_refl _) (by omega))) ?_
    refine yQ ?_
    refine e_seq ?_
    repeat refine Tri.seq ?_
    refine Tri.cond rfl (fun h0 => ?_) (fun h0 => ?_)
    · skip
      have ho : wOut x = some x := by simp at h0; simp [wOut, h0]
      refine yR ?_
      refine yK ?_
      refine yM ?_
      refine yZ ?_
      refine s_app2 3 [] ?_ ?_
      · simp [path_len]; omega
      refine yL ?_
      refine yW ?_
      refine yS ?_
      refine e_draw ?_
      refine Tri.exit ?_
      refine ⟨rfl, ?_, ?_⟩
      · rw [ho]; rfl
      · rw [ho]; exact .cons rfl (ObImp.refl _) (.cons rfl (by rw [pathL_append]; exact ObImp.refl _) .nil)
    · skip
      have ho : wOut x = none := by simp at h0; simp [wOut, h0]
      refine Tri.skip ?_
      refine ⟨rfl, ?_, ?_⟩
      · rw [ho]; rfl
      · rw [ho]; exact .cons rfl (ObImp.refl _) (.cons rfl (ObImp.refl _) .nil)
  · skip
    have hfin : placeM t0 = acc := by rw [← hacc, place_none hdone, List.append_nil]
    refine yR ?_
    refine yK ?_
    refine yA ?_
    refine e_seq ?_
    repeat refine Tri.seq ?_
    exact Tri.ret ⟨.inr rfl, ret1 rfl resV_tmp ((by rw [hfin]; exact ToPu.imp (by repeat constructor)))⟩
  · skip
    obtain ⟨hp1, hp2, hp3⟩ := place_some hz
    have hzm := List.mem_of_getElem? hp2
    have hzs := tsize_mem hzm
    refine Tri.exit ?_
    refine ⟨⟨(acc ++ [z.i], z.t), by rw [← hacc, hp1]; simp, shL_mem hsh.2.2.1 _ hzm, by show tsize z.t ≤ tsize t0; omega⟩, by show tsize z.t < tsize (.mk k n r ks cs); simp only [tsize]; omega, le_of ?_ ?_⟩
    · repeat (first | exact SubE.nil | refine SubE.cons rfl rfl ?_)
    · repeat (first | exact SubH.nil | refine SubH.cons rfl rfl ?_)
end Go.Proofs.YtkcgkignhpepkaaDoor

/- The place of work, with the terms on the way. -/
namespace Go.Proofs.YtkcgkignhpepkaaDoor
open Go Hs
variable {G : List (Nat × TypeId × Pu)}

def walkM : Tm → List Nat → Tm
  | t, [] => t
  | t, i :: p => match t.kids[i]? with
    | some x => walkM x p
    | none => t
def wayM : Tm → List Nat → List Tm
  | t, [] => [t]
  | t, i :: p => t :: match t.kids[i]? with
    | some x => wayM x p
    | none => []
def okP : Tm → List Nat → Prop
  | _, [] => True
  | t, i :: p => ∃ x, t.kids[i]? = some x ∧ okP x p
theorem way_len : ∀ {t : Tm} {p : List Nat}, okP t p → (wayM t p).length = p.length + 1
  | t, [], _ => rfl
  | t, i :: p, ⟨x, hx, h⟩ => by simp [wayM, hx, way_len h]
theorem walk_snoc : ∀ {t : Tm} {p : List Nat} {i : Nat}, okP t p → i < p.length → ∃ x, (walkM t (p.take i)).kids[p[i]!]? = some x ∧ walkM t (p.take (i + 1)) = x ∧ wayM t (p.take (i + 1)) = wayM t (p.take i) ++ [x]
  | t, [], i, _, h => by simp at h
  | t, j :: p, 0, ⟨x, hx, h⟩, _ => ⟨x, by simp [walkM, hx], by simp [walkM, hx], by simp [wayM, hx]⟩
  | t, j :: p, i + 1, ⟨x, hx, h⟩, hi => by
    obtain ⟨y, h1, h2, h3⟩ := walk_snoc (i := i) h (by simpa using hi)
    exact ⟨y, by simpa [walkM, hx] using h1, by simpa [walkM, hx] using h2, by simp [wayM, hx, h3]⟩
theorem walk_size : ∀ {t : Tm} {p : List Nat}, tsize (walkM t p) ≤ tsize t
  | t, [] => by simp [walkM]
  | t, i :: p => by
    simp only [walkM]
    split
    · rename_i x hx
      have := walk_size (t := x) (p := p)
      have h2 := tsize_mem (List.mem_of_getElem? hx)
      obtain ⟨k, n, r, ks, cs⟩ := t
      simp only [Tm.kids, tsize] at h2 ⊢
      omega
    · omega
theorem way_le : ∀ (t : Tm) (p : List Nat), (wayM t p).length ≤ p.length + 1
  | t, [] => by simp [wayM]
  | t, i :: p => by
    simp only [wayM, List.length_cons]
    split
    · have := way_le (by assumption) p; omega
    · simp
mutual
theorem place_ok : ∀ {t : Tm}, shT t → okP t (placeM t)
  | .mk k n r ks cs, h => by
    simp only [shT] at h
    simp only [placeM]
    exact placeL_ok k n r ks cs ks 0 (fun j x hj => by simpa using hj) h.2.2.1
theorem placeL_ok (k n : Int) (r : List Int) (all : List Tm) (cs : List Cs) {many : Nat} : ∀ (ks : List Tm) (i : Nat), (∀ j x, ks[j]? = some x → all[i + j]? = some x) → shL ks → okP (.mk k n r all cs) (placeL many i ks)
  | [], i, _, _ => trivial
  | t :: ts, i, h, hs => by
    simp only [placeL]
    split
    · split
      · exact placeL_ok k n r all cs ts (i + 1) (fun j x hj => by
          have := h (j + 1) x (by simpa using hj)
          rwa [show i + (j + 1) = i + 1 + j by omega] at this) hs.2
      · exact ⟨t, by simpa [Tm.kids] using h 0 t rfl, place_ok hs.1⟩
    · trivial
end

theorem found_c (t0 : Tm) (hs0 : shT t0) (hN : tsize t0 < 2^30) : FCall Tryd.prog G 57 [.pu (tmc 0 t0)] (.pu (siteP (placeM t0) (wayM t0 (placeM t0)))) := by
  have hpl := place_len t0
  have hok := place_ok hs0
  refine FCall.of_tri tbl 31 Tryd.func57 rfl rfl rfl fun w0 M ρ0 D0 => ?_
  have hpc := place_c (G := G) t0 hs0 hN
  generalize hp : placeM t0 = p at hpl hok hpc ⊢
  refine yR ?_
  refine s_box SS 1 ?_
  refine s_alloc SS 2 ?_
  refine e_seqN [1, 2] ?_
  refine yR ?_
  refine yL ?_
  refine s_val (v_callD (fun _ => hpc)) ?_
  refine yL ?_
  refine yZ ?_
  refine yP ?_
  refine s_alloc SS 3 ?_
  refine yS ?_
  refine e_drawN [3] ?_
  refine yR ?_
  refine yF ?_
  refine yK ?_
  refine yC ?_
  refine yJ ?_
  refine e_seq ?_
  repeat refine Tri.seq ?_
  refine Tri.block (Tri.loopW (σ := Nat) (fun i => ⟨[(1, .ptr 1 [] 30), (2, .ptr 2 [] 112), (3, .ptr 3 [] 112), (12, .pu (.sl 0 3 (pathL p))), (13, iv .i64 (pathL p).length), (14, iv .i64 i)], [(1, .var 30 (.pu (tmc 0 (walkM t0 (p.take i))))), (2, .var 112 (.agg 112 [.nilc, .nilc])), (3, .var 112 (.agg 112 [.pu (.sl 0 3 (pathL p)), .ow 0 30 (tmsc 0 (wayM t0 (p.take i)))]))]⟩) (fun i => p.length - i) 0 ?_ ?_ (fun i => ?_))
  · repeat (first | exact .nil | refine .cons rfl (by first | exact .refl | (focus ((repeat constructor); done)) | (exact .var (.agg (.cons .refl (.cons .xsOw .nil))))) ?_)
  · repeat (first | exact .nil | refine .cons rfl (by first | exact .refl | (focus ((repeat constructor); done)) | (exact .var (.agg (.cons .refl (.cons .xsOw .nil))))) ?_)
  refine yR ?_
  refine yI ?_
  refine e_seq ?_
  repeat refine Tri.seq ?_
  refine Tri.cond rfl (fun h0 => ?_) (fun h0 => ?_)
  · skip
    have hi : i < p.length := by rw [path_len] at h0; simpa using h0
    obtain ⟨x, hx1, hx2, hx3⟩ := walk_snoc hok hi
    have hsz := walk_size (t := t0) (p := p.take i)
    have hpg := path_get hi
    rw [getElem!_pos p i hi] at hx1
    generalize p[i] = m at hx1 hpg
    have hwl : (wayM t0 (p.take i)).length ≤ i + 1 := by have := way_le t0 (p.take i); simp at this; omega
    generalize walkM t0 (p.take i) = t at hx1 hsz ⊢
    obtain ⟨k, n, r, ks, cs⟩ := t
    simp only [Tm.kids] at hx1
    have hxg : (tmsc 0 ks)[m]? = some (tmc 0 x) := by simp [tms_eq, hx1]
    refine Tri.skip ?_
    repeat refine Tri.seq ?_
    refine Tri.block ?_
    refine yR ?_
    refine s_val (v_index SS (h0 := by omega) (hp := hpg)) ?_
    refine yL ?_
    refine yA ?_
    refine e_seq ?_
    refine yR ?_
    refine yF ?_
    refine yK ?_
    refine yM ?_
    refine s_val (v_index SS (h0 := by omega) (hp := hxg)) ?_
    refine yL ?_
    refine yS ?_
    refine e_seq ?_
    refine yR ?_
    refine yF ?_
    refine yK ?_
    refine yL ?_
    refine yZ ?_
    refine s_app2 3 [1] ?_ ?_
    · simp [tms_length]; omega
    refine yF ?_
    refine yW ?_
    refine e_seq ?_
    refine yR ?_
    refine yI ?_
    refine yM ?_
    refine e_seq ?_
    refine ⟨i + 1, by omega, le_of ?_ ?_⟩
    · repeat (first | exact SubE.nil | refine SubE.cons rfl (by first | rfl | (rw [wrap64 (by omega) (by omega)]; rfl) | (first | (rw [hx2]; done) | (rw [hx3, tms_eq, tms_eq, List.map_append]; rfl))) ?_)
    · repeat (first | exact SubH.nil | refine SubH.cons rfl (by first | rfl | (rw [wrap64 (by omega) (by omega)]; rfl) | (first | (rw [hx2]; done) | (rw [hx3, tms_eq, tms_eq, List.map_append]; rfl))) ?_)
  · skip
    have hi : p.length ≤ i := by rw [path_len] at h0; simpa using h0
    rw [List.take_of_length_le hi]
    refine Tri.exit ?_
    refine yR ?_
    refine yL ?_
    refine yS ?_
    refine e_seq ?_
    repeat refine Tri.seq ?_
    exact Tri.ret ⟨.inr rfl, ret1 rfl resV_cell (ToPu.imp (by repeat constructor))⟩
end Go.Proofs.YtkcgkignhpepkaaDoor

/- What each kind of step makes of the whole. -/
namespace Go.Proofs.YtkcgkignhpepkaaDoor
open Go Hs
variable {G : List (Nat × TypeId × Pu)}

theorem way_get : ∀ {t : Tm} {p : List Nat} {i : Nat}, okP t p → i ≤ p.length → (wayM t p)[i]? = some (walkM t (p.take i))
  | t, [], 0, _, _ => by simp [wayM, walkM]
  | t, j :: p, 0, _, _ => by simp [wayM, walkM]
  | t, j :: p, i + 1, ⟨x, hx, h⟩, hi => by
    have := way_get (i := i) h (by simpa using hi)
    simpa [wayM, walkM, hx] using this
theorem walk_kid {t : Tm} {p : List Nat} {i : Nat} (h : okP t p) (hi : i < p.length) : (walkM t (p.take i)).kids[p[i]]? = some (walkM t (p.take (i + 1))) := by
  obtain ⟨x, h1, h2, _⟩ := walk_snoc h hi
  rw [getElem!_pos p i hi] at h1
  rw [h2, h1]
theorem way_kid {t : Tm} {p : List Nat} (h : okP t p) : ∀ i (hi : i < p.length), p[i] < ((wayM t p)[i]'(by rw [way_len h]; omega)).kids.length := fun i hi => by
  have h1 := way_get h (Nat.le_of_lt hi)
  have h2 := walk_kid h hi
  rw [List.getElem?_eq_getElem (by rw [way_len h]; omega)] at h1
  simp only [Option.some.injEq] at h1
  rw [h1]
  exact (List.getElem?_eq_some_iff.1 h2).1
theorem way_mem {t : Tm} {p : List Nat} (h : okP t p) : ∀ x ∈ wayM t p, tsize x ≤ tsize t := fun x hx => by
  obtain ⟨i, hi, rfl⟩ := List.getElem_of_mem hx
  have h1 := way_get h (i := i) (by rw [way_len h] at hi; omega)
  rw [List.getElem?_eq_getElem hi] at h1
  simp only [Option.some.injEq] at h1
  rw [h1]
  exact walk_size
theorem kids_le (t : Tm) : t.kids.length < tsize t := by
  obtain ⟨k, n, r, ks, cs⟩ := t
  have := length_tsizeL ks
  simp only [Tm.kids, tsize]; omega
theorem kid_size {t x : Tm} {i : Nat} (h : t.kids[i]? = some x) : tsize x < tsize t := by
  obtain ⟨k, n, r, ks, cs⟩ := t
  have := tsize_mem (List.mem_of_getElem? h)
  simp only [Tm.kids] at this
  simp only [tsize]; omega
theorem path_size {t : Tm} {p : List Nat} (h : okP t p) : p.length < tsize t := by
  induction p generalizing t with
  | nil => have := tsize_pos t; show 0 < tsize t; omega
  | cons i p ih =>
    obtain ⟨x, hx, h⟩ := h
    have := ih h
    have := kid_size hx
    simp; omega
theorem tsizeL_set : ∀ {ks : List Tm} {j : Nat} {x y : Tm}, ks[j]? = some y → tsizeL (ks.set j x) + tsize y = tsizeL ks + tsize x
  | [], j, x, y, h => by simp at h
  | t :: ts, 0, x, y, h => by simp at h; subst h; simp [tsizeL]; omega
  | t :: ts, j + 1, x, y, h => by
    have := tsizeL_set (ks := ts) (j := j) (x := x) (y := y) (by simpa using h)
    simp [tsizeL]; omega
theorem fill_size {t : Tm} {p : List Nat} (h : okP t p) (lo : Nat) : ∀ (hi : Nat) (x : Tm), hi ≤ p.length → tsize (fillM (wayM t p) p lo hi x) ≤ tsize t + tsize x
  | 0, x, _ => by simp [fillM]
  | n + 1, x, hn => by
    have key : ∀ (m : Nat) (y : Tm) (b : Nat), m ≤ p.length → tsize y + tsize (walkM t (p.take m)) ≤ b + tsize t + tsize (walkM t (p.take m)) → tsize y ≤ b + tsize (walkM t (p.take m)) → tsize (fillM (wayM t p) p lo m y) ≤ b + tsize t := by
      intro m
      induction m with
      | zero => intro y b _ _ h2; simpa [fillM, walkM] using h2
      | succ m ih =>
        intro y b hm h1 h2
        simp only [fillM]
        split
        · omega
        · have hmp : m < p.length := by omega
          have hk := walk_kid h hmp
          rw [way_get h (by omega), List.getElem?_eq_getElem hmp]
          simp only
          have hs : tsize (setKid (walkM t (p.take m)) p[m] y) + tsize (walkM t (p.take (m + 1))) = tsize (walkM t (p.take m)) + tsize y := by
            generalize walkM t (p.take m) = q at hk ⊢
            obtain ⟨k, n, r, ks, cs⟩ := q
            simp only [Tm.kids] at hk
            have := tsizeL_set (x := y) hk
            simp only [setKid, tsize]; omega
          have := walk_size (t := t) (p := p.take m)
          exact ih _ b (by omega) (by omega) (by omega)
    have h1 := walk_size (t := t) (p := p.take (n + 1))
    have := key (n + 1) x (tsize x) hn (by omega) (by omega)
    omega

theorem filled_c2 (path : List Nat) (way : List Tm) (lo : Nat) (x : Tm) (h2 : path.length ≤ way.length) (hp : ∀ i (h : i < path.length), path[i] < way[i].kids.length) (hw : ∀ t ∈ way, t.kids.length < 2^30) (hl : path.length < 2^30) (hlo : lo < 2^40) :
    FCall Tryd.prog G 70 [.pu (siteP path way), .pu (.leaf (.int .i64 lo)), .pu (.leaf (.int .i64 (pathL path).length)), .pu (tmc 0 x)] (.pu (tmc 0 (fillM way path lo path.length x))) := by
  rw [path_len]; exact filled_c path way lo path.length x (Nat.le_refl _) h2 hp hw hl hlo

theorem byApp_c (t f x b : Tm) (h0 : t.kids[0]? = some f) (h1 : t.kids[1]? = some x) (h2 : f.kids[0]? = some b) (hN : tsize t < 2^30) : FCallN Tryd.prog G 71 [.pu (tmc 0 t)] (fun m => .pu (tmc m (putM [x] 0 b))) := by
  have s0 := kid_size h0
  have s1 := kid_size h1
  have s2 := kid_size h2
  obtain ⟨k, n, r, ks, cs⟩ := t
  obtain ⟨k', n', r', ks', cs'⟩ := f
  simp only [Tm.kids] at h0 h1 h2
  have g0 : (tmsc 0 ks)[0]? = some (tmc 0 (.mk k' n' r' ks' cs')) := by simp [tms_eq, h0]
  have g1 : (tmsc 0 ks)[1]? = some (tmc 0 x) := by simp [tms_eq, h1]
  have g2 : (tmsc 0 ks')[0]? = some (tmc 0 b) := by simp [tms_eq, h2]
  refine FCallN.of_tri tbl 16 Tryd.func71 rfl rfl (fun _ => rfl) fun w0 M ρ0 D0 hM => ?_
  refine yR ?_
  refine s_box SS 1 ?_
  refine s_alloc SS 2 ?_
  refine e_seqN [1, 2] ?_
  refine yR ?_
  refine yF ?_
  refine yK ?_
  refine s_val (v_index SS (h0 := by omega) (hp := g0)) ?_
  refine yF ?_
  refine yK ?_
  refine s_val (v_index SS (h0 := by omega) (hp := g2)) ?_
  refine yL ?_
  refine yF ?_
  refine yK ?_
  refine s_val (v_index SS (h0 := by omega) (hp := g1)) ?_
  refine yL ?_
  refine yZ ?_
  refine s_val (v_callN (fun m n h => (tmc_low h _).imp) (fun _ => put_c [x] (by simp) (fun v hv => by simp at hv; subst hv; omega) b (by omega))) ?_
  refine yS ?_
  refine e_draw ?_
  repeat refine Tri.seq ?_
  exact Tri.ret ⟨.inr rfl, ret1 rfl resV_cell (ToPu.imp (by repeat constructor))⟩

theorem byLet_c (t x b : Tm) (h0 : t.kids[0]? = some x) (h1 : t.kids[1]? = some b) (hN : tsize t < 2^30) : FCallN Tryd.prog G 72 [.pu (tmc 0 t)] (fun m => .pu (tmc m (putM [x] 0 b))) := by
  have s0 := kid_size h0
  have s1 := kid_size h1
  obtain ⟨k, n, r, ks, cs⟩ := t
  simp only [Tm.kids] at h0 h1
  have g0 : (tmsc 0 ks)[0]? = some (tmc 0 x) := by simp [tms_eq, h0]
  have g1 : (tmsc 0 ks)[1]? = some (tmc 0 b) := by simp [tms_eq, h1]
  refine FCallN.of_tri tbl 13 Tryd.func72 rfl rfl (fun _ => rfl) fun w0 M ρ0 D0 hM => ?_
  refine yR ?_
  refine s_box SS 1 ?_
  refine s_alloc SS 2 ?_
  refine e_seqN [1, 2] ?_
  refine yR ?_
  refine yF ?_
  refine yK ?_
  refine s_val (v_index SS (h0 := by omega) (hp := g1)) ?_
  refine yL ?_
  refine yF ?_
  refine yK ?_
  refine s_val (v_index SS (h0 := by omega) (hp := g0)) ?_
  refine yL ?_
  refine yZ ?_
  refine s_val (v_callN (fun m n h => (tmc_low h _).imp) (fun _ => put_c [x] (by simp) (fun v hv => by simp at hv; subst hv; omega) b (by omega))) ?_
  refine yS ?_
  refine e_draw ?_
  repeat refine Tri.seq ?_
  exact Tri.ret ⟨.inr rfl, ret1 rfl resV_cell (ToPu.imp (by repeat constructor))⟩

theorem byRet_c (t x b : Tm) (h0 : t.kids[0]? = some x) (h1 : t.kids[1]? = some b) (hN : tsize t < 2^30) : FCallN Tryd.prog G 77 [.pu (tmc 0 t)] (fun m => .pu (tmc m (putM [x] 0 b))) := by
  have s0 := kid_size h0
  have s1 := kid_size h1
  obtain ⟨k, n, r, ks, cs⟩ := t
  simp only [Tm.kids] at h0 h1
  have g0 : (tmsc 0 ks)[0]? = some (tmc 0 x) := by simp [tms_eq, h0]
  have g1 : (tmsc 0 ks)[1]? = some (tmc 0 b) := by simp [tms_eq, h1]
  refine FCallN.of_tri tbl 13 Tryd.func77 rfl rfl (fun _ => rfl) fun w0 M ρ0 D0 hM => ?_
  refine yR ?_
  refine s_box SS 1 ?_
  refine s_alloc SS 2 ?_
  refine e_seqN [1, 2] ?_
  refine yR ?_
  refine yF ?_
  refine yK ?_
  refine s_val (v_index SS (h0 := by omega) (hp := g1)) ?_
  refine yL ?_
  refine yF ?_
  refine yK ?_
  refine s_val (v_index SS (h0 := by omega) (hp := g0)) ?_
  refine yL ?_
  refine yZ ?_
  refine s_val (v_callN (fun m n h => (tmc_low h _).imp) (fun _ => put_c [x] (by simp) (fun v hv => by simp at hv; subst hv; omega) b (by omega))) ?_
  refine yS ?_
  refine e_draw ?_
  repeat refine Tri.seq ?_
  exact Tri.ret ⟨.inr rfl, ret1 rfl resV_cell (ToPu.imp (by repeat constructor))⟩

def varM : Tm := .mk 1 0 Z32 [] []
def backM (t0 : Tm) (p : List Nat) (n : Nat) : Tm := .mk 3 0 Z32 [fillM (wayM t0 p) p n p.length varM] []
theorem do_c (t0 : Tm) (p : List Nat) (hok : okP t0 p) (hN : tsize t0 < 2^28) (n : Nat) (a b : Tm) (hn : handM (wayM t0 p) (walkM t0 p).ref p.length = (n : Int)) (hnp : n < p.length) (hnum : 0 ≤ (walkM t0 p).num ∧ (walkM t0 p).num < 2^20)
    (ha : (walkM t0 p).kids[0]? = some a) (hb : (walkM t0 (p.take n)).kids[(2 + (walkM t0 p).num).toNat]? = some b) :
    FCall Tryd.prog G 76 [.pu (siteP p (wayM t0 p))] (.pu (tmc 0 (fillM (wayM t0 p) p 0 n (putM [a, backM t0 p n] 0 b)))) := by
  have hpl := path_size hok
  have hwl := way_len hok
  have hat := at_c (G := G) p (wayM t0 p) (by omega)
  have hwg := way_get hok (Nat.le_refl p.length)
  rw [List.take_length, List.getElem?_eq_getElem (by omega)] at hwg
  simp only [Option.some.injEq] at hwg
  rw [hwg] at hat
  have hwn := way_get hok (Nat.le_of_lt hnp)
  have hsz := walk_size (t := t0) (p := p)
  have hszn := walk_size (t := t0) (p := p.take n)
  have hfb := fill_size hok n p.length varM (Nat.le_refl _)
  have hkw : ∀ t ∈ wayM t0 p, t.kids.length < 2^30 := fun t ht => by have := way_mem hok t ht; have := kids_le t; omega
  have sa := kid_size ha
  have sb := kid_size hb
  generalize hw : walkM t0 p = w at hn hnum ha hb hat hsz sa
  obtain ⟨k, num, r, ks, cs⟩ := w
  simp only [Tm.num, Tm.ref, Tm.kids] at hn hnum ha hb
  generalize hv : walkM t0 (p.take n) = v at hb hwn hszn sb
  obtain ⟨k', num', r', ks', cs'⟩ := v
  simp only [Tm.kids] at hb
  have hsv : tsize varM = 1 := by simp [varM, tsize, tsizeL, csizeL]
  have ga : (tmsc 0 ks)[0]? = some (tmc 0 a) := by simp [tms_eq, ha]
  have gb : (tmsc 0 ks')[(2 + num).toNat]? = some (tmc 0 b) := by simp [tms_eq, hb]
  have gw : (tmsc 0 (wayM t0 p))[((n : Int)).toNat]? = some (tmc 0 (.mk k' num' r' ks' cs')) := by simp [tms_eq, hwn]
  have hsb : tsize (backM t0 p n) < 2^30 := by simp only [backM, tsize, tsizeL, csizeL]; omega
  refine FCall.of_tri tbl 45 Tryd.func76 rfl rfl rfl fun w0 M ρ0 D0 => ?_
  refine yR ?_
  refine s_box SS 1 ?_
  refine s_alloc SS 2 ?_
  refine e_seqN [1, 2] ?_
  refine yR ?_
  refine yL ?_
  refine s_val (v_callD (fun _ => hat)) ?_
  refine s_alloc SS 3 ?_
  refine yS ?_
  refine e_seqN [3] ?_
  refine yR ?_
  refine yL ?_
  refine yF ?_
  refine yL ?_
  refine yF ?_
  refine yL ?_
  refine yP ?_
  refine s_val (v_callD (fun _ => handler_c p (wayM t0 p) r num (by omega) (by omega))) ?_
  refine yA ?_
  refine e_seq ?_
  rw [hn]
  refine yR ?_
  refine yL ?_
  refine yM ?_
  refine yF ?_
  refine yK ?_
  refine yC ?_
  refine yP ?_
  refine s_val (v_callD (fun _ => filled_c2 p (wayM t0 p) n varM (by omega) (fun i hi => way_kid hok i hi) hkw (by omega) (by omega))) ?_
  refine yZ ?_
  refine yP ?_
  refine s_alloc SS 5 ?_
  refine yS ?_
  refine e_seqN [5] ?_
  refine yR ?_
  refine yL ?_
  refine yM ?_
  refine yF ?_
  refine yK ?_
  refine yM ?_
  refine s_val (v_index SS (h0 := by omega) (hp := gw)) ?_
  refine yF ?_
  refine yK ?_
  refine yF ?_
  refine yL ?_
  refine yI ?_
  refine s_val (v_index SS (h0 := by rw [wrap64 (by omega) (by omega)]; omega) (hp := by rw [wrap64 (by omega) (by omega)]; exact gb)) ?_
  refine yL ?_
  refine yF ?_
  refine yK ?_
  refine s_val (v_index SS (h0 := by omega) (hp := ga)) ?_
  refine yL ?_
  refine yL ?_
  refine s_sl SS (ps := [tmc 0 a, tmc 0 (backM t0 p n)]) ?_
  refine s_val (v_callD (fun _ => (put_c [a, backM t0 p n] (by simp) (fun v hv => by simp at hv; rcases hv with rfl | rfl <;> omega) b (by omega)).at (u := .pu (tmc 0 (putM [a, backM t0 p n] 0 b))) (fun m => (tmc_low (Nat.zero_le m) _).imp))) ?_
  refine s_val (v_callD (fun _ => filled_c p (wayM t0 p) 0 n (putM [a, backM t0 p n] 0 b) (by omega) (by omega) (fun i hi => way_kid hok i (by omega)) hkw (by omega) (by omega))) ?_
  refine yS ?_
  refine e_draw ?_
  repeat refine Tri.seq ?_
  exact Tri.ret ⟨.inr rfl, ret1 rfl resV_cell (ToPu.imp (by repeat constructor))⟩

/-- The whole, of which the place of work becomes another term. -/
def hereM (t0 : Tm) (p : List Nat) (y : Tm) : Tm := fillM (wayM t0 p) p 0 p.length y

theorem here831_c (f : FuncId) (he : entersB Tryd.prog f = true) (t0 : Tm) (p : List Nat) (hok : okP t0 p) (hN : tsize t0 < 2^28) (y : Tm) (h : FCall Tryd.prog G f [.pu (tmc 0 (walkM t0 p))] (.pu (tmc 0 y))) :
    HCall Tryd.prog G 69 [.pu (siteP p (wayM t0 p)), .ptr 831 [] 39] [(831, .var 39 (fV f))] [] (.pu (tmc 0 (hereM t0 p y))) [] [] := by
  have hpl := path_size hok
  have hwl := way_len hok
  have hat := at_c (G := G) p (wayM t0 p) (by omega)
  have hwg := way_get hok (Nat.le_refl p.length)
  rw [List.take_length, List.getElem?_eq_getElem (by omega)] at hwg
  simp only [Option.some.injEq] at hwg
  rw [hwg] at hat
  have hkw : ∀ t ∈ wayM t0 p, t.kids.length < 2^30 := fun t ht => by have := way_mem hok t ht; have := kids_le t; omega
  refine HCall.of_triD tbl 13 [] Tryd.func69 rfl rfl rfl fun w0 M ρ0 D0 => ?_
  refine yR ?_
  refine s_box SS 2 ?_
  refine s_alloc SS 3 ?_
  refine e_seqN [2, 3] ?_
  refine yR ?_
  refine yL ?_
  refine yF ?_
  refine yK ?_
  refine yC ?_
  refine yL ?_
  refine yL ?_
  refine s_val (v_callD (fun _ => hat)) ?_
  refine s_val (v_callO (fun _ => h) (he := he)) ?_
  refine s_val (v_callD (fun _ => filled_c2 p (wayM t0 p) 0 y (by omega) (fun i hi => way_kid hok i hi) hkw (by omega) (by omega))) ?_
  refine yS ?_
  refine e_draw ?_
  repeat refine Tri.seq ?_
  exact Tri.ret ⟨.inr rfl, ret1 rfl resV_cell (VImp.refl _), by repeat (first | exact OutH.nil | refine OutH.cons rfl (by first | exact ObImp.refl _ | exact OWk.imp (by repeat constructor)) ?_)⟩

theorem here832_c (f : FuncId) (he : entersB Tryd.prog f = true) (t0 : Tm) (p : List Nat) (hok : okP t0 p) (hN : tsize t0 < 2^28) (y : Tm) (h : FCall Tryd.prog G f [.pu (tmc 0 (walkM t0 p))] (.pu (tmc 0 y))) :
    HCall Tryd.prog G 69 [.pu (siteP p (wayM t0 p)), .ptr 832 [] 39] [(832, .var 39 (fV f))] [] (.pu (tmc 0 (hereM t0 p y))) [] [] := by
  have hpl := path_size hok
  have hwl := way_len hok
  have hat := at_c (G := G) p (wayM t0 p) (by omega)
  have hwg := way_get hok (Nat.le_refl p.length)
  rw [List.take_length, List.getElem?_eq_getElem (by omega)] at hwg
  simp only [Option.some.injEq] at hwg
  rw [hwg] at hat
  have hkw : ∀ t ∈ wayM t0 p, t.kids.length < 2^30 := fun t ht => by have := way_mem hok t ht; have := kids_le t; omega
  refine HCall.of_triD tbl 13 [] Tryd.func69 rfl rfl rfl fun w0 M ρ0 D0 => ?_
  refine yR ?_
  refine s_box SS 2 ?_
  refine s_alloc SS 3 ?_
  refine e_seqN [2, 3] ?_
  refine yR ?_
  refine yL ?_
  refine yF ?_
  refine yK ?_
  refine yC ?_
  refine yL ?_
  refine yL ?_
  refine s_val (v_callD (fun _ => hat)) ?_
  refine s_val (v_callO (fun _ => h) (he := he)) ?_
  refine s_val (v_callD (fun _ => filled_c2 p (wayM t0 p) 0 y (by omega) (fun i hi => way_kid hok i hi) hkw (by omega) (by omega))) ?_
  refine yS ?_
  refine e_draw ?_
  repeat refine Tri.seq ?_
  exact Tri.ret ⟨.inr rfl, ret1 rfl resV_cell (VImp.refl _), by repeat (first | exact OutH.nil | refine OutH.cons rfl (by first | exact ObImp.refl _ | exact OWk.imp (by repeat constructor)) ?_)⟩

theorem here834_c (f : FuncId) (he : entersB Tryd.prog f = true) (t0 : Tm) (p : List Nat) (hok : okP t0 p) (hN : tsize t0 < 2^28) (y : Tm) (h : FCall Tryd.prog G f [.pu (tmc 0 (walkM t0 p))] (.pu (tmc 0 y))) :
    HCall Tryd.prog G 69 [.pu (siteP p (wayM t0 p)), .ptr 834 [] 39] [(834, .var 39 (fV f))] [] (.pu (tmc 0 (hereM t0 p y))) [] [] := by
  have hpl := path_size hok
  have hwl := way_len hok
  have hat := at_c (G := G) p (wayM t0 p) (by omega)
  have hwg := way_get hok (Nat.le_refl p.length)
  rw [List.take_length, List.getElem?_eq_getElem (by omega)] at hwg
  simp only [Option.some.injEq] at hwg
  rw [hwg] at hat
  have hkw : ∀ t ∈ wayM t0 p, t.kids.length < 2^30 := fun t ht => by have := way_mem hok t ht; have := kids_le t; omega
  refine HCall.of_triD tbl 13 [] Tryd.func69 rfl rfl rfl fun w0 M ρ0 D0 => ?_
  refine yR ?_
  refine s_box SS 2 ?_
  refine s_alloc SS 3 ?_
  refine e_seqN [2, 3] ?_
  refine yR ?_
  refine yL ?_
  refine yF ?_
  refine yK ?_
  refine yC ?_
  refine yL ?_
  refine yL ?_
  refine s_val (v_callD (fun _ => hat)) ?_
  refine s_val (v_callO (fun _ => h) (he := he)) ?_
  refine s_val (v_callD (fun _ => filled_c2 p (wayM t0 p) 0 y (by omega) (fun i hi => way_kid hok i hi) hkw (by omega) (by omega))) ?_
  refine yS ?_
  refine e_draw ?_
  repeat refine Tri.seq ?_
  exact Tri.ret ⟨.inr rfl, ret1 rfl resV_cell (VImp.refl _), by repeat (first | exact OutH.nil | refine OutH.cons rfl (by first | exact ObImp.refl _ | exact OWk.imp (by repeat constructor)) ?_)⟩

theorem here835_c (f : FuncId) (he : entersB Tryd.prog f = true) (t0 : Tm) (p : List Nat) (hok : okP t0 p) (hN : tsize t0 < 2^28) (y : Tm) (h : FCall Tryd.prog G f [.pu (tmc 0 (walkM t0 p))] (.pu (tmc 0 y))) :
    HCall Tryd.prog G 69 [.pu (siteP p (wayM t0 p)), .ptr 835 [] 39] [(835, .var 39 (fV f))] [] (.pu (tmc 0 (hereM t0 p y))) [] [] := by
  have hpl := path_size hok
  have hwl := way_len hok
  have hat := at_c (G := G) p (wayM t0 p) (by omega)
  have hwg := way_get hok (Nat.le_refl p.length)
  rw [List.take_length, List.getElem?_eq_getElem (by omega)] at hwg
  simp only [Option.some.injEq] at hwg
  rw [hwg] at hat
  have hkw : ∀ t ∈ wayM t0 p, t.kids.length < 2^30 := fun t ht => by have := way_mem hok t ht; have := kids_le t; omega
  refine HCall.of_triD tbl 13 [] Tryd.func69 rfl rfl rfl fun w0 M ρ0 D0 => ?_
  refine yR ?_
  refine s_box SS 2 ?_
  refine s_alloc SS 3 ?_
  refine e_seqN [2, 3] ?_
  refine yR ?_
  refine yL ?_
  refine yF ?_
  refine yK ?_
  refine yC ?_
  refine yL ?_
  refine yL ?_
  refine s_val (v_callD (fun _ => hat)) ?_
  refine s_val (v_callO (fun _ => h) (he := he)) ?_
  refine s_val (v_callD (fun _ => filled_c2 p (wayM t0 p) 0 y (by omega) (fun i hi => way_kid hok i hi) hkw (by omega) (by omega))) ?_
  refine yS ?_
  refine e_draw ?_
  repeat refine Tri.seq ?_
  exact Tri.ret ⟨.inr rfl, ret1 rfl resV_cell (VImp.refl _), by repeat (first | exact OutH.nil | refine OutH.cons rfl (by first | exact ObImp.refl _ | exact OWk.imp (by repeat constructor)) ?_)⟩

theorem here836_c (f : FuncId) (he : entersB Tryd.prog f = true) (t0 : Tm) (p : List Nat) (hok : okP t0 p) (hN : tsize t0 < 2^28) (y : Tm) (h : FCall Tryd.prog G f [.pu (tmc 0 (walkM t0 p))] (.pu (tmc 0 y))) :
    HCall Tryd.prog G 69 [.pu (siteP p (wayM t0 p)), .ptr 836 [] 39] [(836, .var 39 (fV f))] [] (.pu (tmc 0 (hereM t0 p y))) [] [] := by
  have hpl := path_size hok
  have hwl := way_len hok
  have hat := at_c (G := G) p (wayM t0 p) (by omega)
  have hwg := way_get hok (Nat.le_refl p.length)
  rw [List.take_length, List.getElem?_eq_getElem (by omega)] at hwg
  simp only [Option.some.injEq] at hwg
  rw [hwg] at hat
  have hkw : ∀ t ∈ wayM t0 p, t.kids.length < 2^30 := fun t ht => by have := way_mem hok t ht; have := kids_le t; omega
  refine HCall.of_triD tbl 13 [] Tryd.func69 rfl rfl rfl fun w0 M ρ0 D0 => ?_
  refine yR ?_
  refine s_box SS 2 ?_
  refine s_alloc SS 3 ?_
  refine e_seqN [2, 3] ?_
  refine yR ?_
  refine yL ?_
  refine yF ?_
  refine yK ?_
  refine yC ?_
  refine yL ?_
  refine yL ?_
  refine s_val (v_callD (fun _ => hat)) ?_
  refine s_val (v_callO (fun _ => h) (he := he)) ?_
  refine s_val (v_callD (fun _ => filled_c2 p (wayM t0 p) 0 y (by omega) (fun i hi => way_kid hok i hi) hkw (by omega) (by omega))) ?_
  refine yS ?_
  refine e_draw ?_
  repeat refine Tri.seq ?_
  exact Tri.ret ⟨.inr rfl, ret1 rfl resV_cell (VImp.refl _), by repeat (first | exact OutH.nil | refine OutH.cons rfl (by first | exact ObImp.refl _ | exact OWk.imp (by repeat constructor)) ?_)⟩
end Go.Proofs.YtkcgkignhpepkaaDoor

/- A world at work. -/
namespace Go.Proofs.YtkcgkignhpepkaaDoor
open Go Hs
variable {G : List (Nat × TypeId × Pu)}

abbrev hereV (l : Nat) : PV := .fn (.func 69) [] [.ptr l [] 39]
abbrev defV : PV := .fn (.func 73) [] [.ptr 823 [] 114]
def bodL (ts : List KT) : List (List Int × PV) := ts.map fun x => (x.1, .pu (tmc 0 x.2))
instance {V : TypeId} {ts : List KT} : NoLab (.map 23 V (mapE (bodL ts))) := inferInstanceAs (NoLab (.map 23 V (mapE (ts.map fun x => (x.1, .pu (tmc 0 x.2))))))
theorem bodL_take {ts : List KT} {i : Nat} (h : i < ts.length) : bodL (ts.take (i + 1)) = bodL (ts.take i) ++ [(ts[i].1, .pu (tmc 0 ts[i].2))] := by
  unfold bodL
  rw [List.take_succ_eq_append_getElem h, List.map_append]; rfl
theorem bod_len {ts : List KT} (h : ∀ x ∈ ts, x.1.length = 32) : ∀ x ∈ bodL ts, x.1.length = 32 := by
  intro x hx
  obtain ⟨y, hy, rfl⟩ := List.mem_map.1 hx
  exact h y hy
def bodM (s : List Int) : List KT → Option Tm
  | [] => none
  | x :: l => if s = x.1 then some x.2 else bodM s l
theorem look_bod {s : List Int} : ∀ {ts : List KT}, lookS s (bodL ts) = (bodM s ts).map fun t => .pu (tmc 0 t)
  | [] => rfl
  | x :: ts => by
    have ih := look_bod (s := s) (ts := ts)
    unfold bodL at ih ⊢
    simp only [List.map_cons, lookS, bodM, ih]
    split <;> rfl
theorem bod_none {s : List Int} : ∀ {ts : List KT}, s ∉ ts.map (·.1) → bodM s ts = none
  | [], _ => rfl
  | x :: ts, h => by
    simp only [List.map_cons, List.mem_cons, not_or] at h
    simp only [bodM, if_neg h.1]
    exact bod_none h.2
abbrev nilF : PV := .pu (.leaf .nilFunc)
abbrev runO (a b : Pu) (ts : List KT) (fs : List PV) : Ob := .var 125 (.agg 125 [.pu (wdP a b ts), .mp 822 23 30, .agg 123 fs])
abbrev ruO (a b : Pu) (ts : List KT) : List (Nat × Ob) := [(820, runO a b ts [nilF, hereV 831, hereV 832, hereV 833, hereV 834, hereV 835, fV 76, hereV 836]), (822, .map 23 30 (mapE (bodL ts))), (823, .var 114 (.ptr 820 [] 125)),
  (831, .var 39 (fV 71)), (832, .var 39 (fV 72)), (833, .var 39 defV), (834, .var 39 (fV 74)), (835, .var 39 (fV 75)), (836, .var 39 (fV 77))]

theorem open831_c : HCall Tryd.prog G 68 [fV 71] [] [] (hereV 831) [(831, .var 39 (fV 71))] [831] := by
  refine HCall.of_triD tbl 4 [] Tryd.func68 rfl rfl rfl fun w0 M ρ0 D0 => ?_
  refine yR ?_
  refine s_box SS 831 ?_
  refine yB ?_
  refine e_seqN [831] ?_
  refine yR ?_
  refine s_val (v_mkFnD SS) ?_
  refine yA ?_
  refine e_seq ?_
  repeat refine Tri.seq ?_
  exact Tri.ret ⟨.inr rfl, ret1 rfl resV_tmp (VImp.refl _), by repeat (first | exact OutH.nil | refine OutH.cons rfl (by first | exact ObImp.refl _ | exact OWk.imp (by repeat constructor)) ?_)⟩

theorem open832_c : HCall Tryd.prog G 68 [fV 72] [] [] (hereV 832) [(832, .var 39 (fV 72))] [832] := by
  refine HCall.of_triD tbl 4 [] Tryd.func68 rfl rfl rfl fun w0 M ρ0 D0 => ?_
  refine yR ?_
  refine s_box SS 832 ?_
  refine yB ?_
  refine e_seqN [832] ?_
  refine yR ?_
  refine s_val (v_mkFnD SS) ?_
  refine yA ?_
  refine e_seq ?_
  repeat refine Tri.seq ?_
  exact Tri.ret ⟨.inr rfl, ret1 rfl resV_tmp (VImp.refl _), by repeat (first | exact OutH.nil | refine OutH.cons rfl (by first | exact ObImp.refl _ | exact OWk.imp (by repeat constructor)) ?_)⟩

theorem open834_c : HCall Tryd.prog G 68 [fV 74] [] [] (hereV 834) [(834, .var 39 (fV 74))] [834] := by
  refine HCall.of_triD tbl 4 [] Tryd.func68 rfl rfl rfl fun w0 M ρ0 D0 => ?_
  refine yR ?_
  refine s_box SS 834 ?_
  refine yB ?_
  refine e_seqN [834] ?_
  refine yR ?_
  refine s_val (v_mkFnD SS) ?_
  refine yA ?_
  refine e_seq ?_
  repeat refine Tri.seq ?_
  exact Tri.ret ⟨.inr rfl, ret1 rfl resV_tmp (VImp.refl _), by repeat (first | exact OutH.nil | refine OutH.cons rfl (by first | exact ObImp.refl _ | exact OWk.imp (by repeat constructor)) ?_)⟩

theorem open835_c : HCall Tryd.prog G 68 [fV 75] [] [] (hereV 835) [(835, .var 39 (fV 75))] [835] := by
  refine HCall.of_triD tbl 4 [] Tryd.func68 rfl rfl rfl fun w0 M ρ0 D0 => ?_
  refine yR ?_
  refine s_box SS 835 ?_
  refine yB ?_
  refine e_seqN [835] ?_
  refine yR ?_
  refine s_val (v_mkFnD SS) ?_
  refine yA ?_
  refine e_seq ?_
  repeat refine Tri.seq ?_
  exact Tri.ret ⟨.inr rfl, ret1 rfl resV_tmp (VImp.refl _), by repeat (first | exact OutH.nil | refine OutH.cons rfl (by first | exact ObImp.refl _ | exact OWk.imp (by repeat constructor)) ?_)⟩

theorem open836_c : HCall Tryd.prog G 68 [fV 77] [] [] (hereV 836) [(836, .var 39 (fV 77))] [836] := by
  refine HCall.of_triD tbl 4 [] Tryd.func68 rfl rfl rfl fun w0 M ρ0 D0 => ?_
  refine yR ?_
  refine s_box SS 836 ?_
  refine yB ?_
  refine e_seqN [836] ?_
  refine yR ?_
  refine s_val (v_mkFnD SS) ?_
  refine yA ?_
  refine e_seq ?_
  repeat refine Tri.seq ?_
  exact Tri.ret ⟨.inr rfl, ret1 rfl resV_tmp (VImp.refl _), by repeat (first | exact OutH.nil | refine OutH.cons rfl (by first | exact ObImp.refl _ | exact OWk.imp (by repeat constructor)) ?_)⟩

theorem open833_c : HCall Tryd.prog G 68 [defV] [] [] (hereV 833) [(833, .var 39 defV)] [833] := by
  refine HCall.of_triD tbl 4 [823] Tryd.func68 rfl rfl rfl fun w0 M ρ0 D0 => ?_
  refine yR ?_
  refine s_box SS 833 ?_
  refine yB ?_
  refine e_seqN [833] ?_
  refine yR ?_
  refine s_val (v_mkFnD SS) ?_
  refine yA ?_
  refine e_seq ?_
  repeat refine Tri.seq ?_
  exact Tri.ret ⟨.inr rfl, ret1 rfl resV_tmp (VImp.refl _), by repeat (first | exact OutH.nil | refine OutH.cons rfl (by first | exact ObImp.refl _ | exact OWk.imp (by repeat constructor)) ?_)⟩

set_option maxHeartbeats 1000000 in
theorem opened_c (a b : Pu) (ts : List KT) (hnd : (ts.map (·.1)).Nodup) (hl : ts.length < 2^40) : HCall Tryd.prog G 58 [.pu (wdP a b ts)] [] [] (.ptr 820 [] 125) (ruO a b ts) [822, 820, 823, 831, 832, 833, 834, 835, 836] := by
  refine HCall.of_triE tbl 48 [] Tryd.func58 rfl rfl rfl rfl rfl (by repeat (first | exact .nil | refine .cons rfl rfl ?_ | refine .cons rfl noLabs ?_)) rfl fun w0 M ρ0 D0 => ?_
  refine Tri.fact (i := 0) rfl (fun D w x h => wd_wf h) (fun hr => ?_)
  refine yR ?_
  refine s_box SS 1 ?_
  refine yB ?_
  refine e_seqN [1] ?_
  refine yR ?_
  refine yL ?_
  refine s_makeMap 822 ?_
  refine yP ?_
  refine s_box SS 820 ?_
  refine s_alloc SS 823 ?_
  refine yS ?_
  refine e_seqN [822, 820, 823] ?_
  refine yR ?_
  refine yL ?_
  refine yY ?_
  refine yF ?_
  refine yF ?_
  refine yK ?_
  refine yC ?_
  refine yJ ?_
  refine e_seq ?_
  repeat refine Tri.seq ?_
  refine Tri.block (Tri.loopW (σ := Nat) (fun i => ⟨[(3, .ptr 823 [] 114), (15, .pu (.sl 0 71 (ts.map ktP))), (16, iv .i64 (ts.map ktP).length), (17, iv .i64 i)], [(820, .var 125 (.agg 125 [.pu (wdP a b ts), .mp 822 23 30, .pu (.agg 123 (List.replicate 8 (.leaf .nilFunc)))])), (822, .map 23 30 (mapE (bodL (ts.take i)))), (823, .var 114 (.ptr 820 [] 125))]⟩) (fun i => ts.length - i) 0 ?_ ?_ (fun i => ?_))
  · exact zW
  · exact zW
  refine yR ?_
  refine yI ?_
  refine e_seq ?_
  repeat refine Tri.seq ?_
  refine Tri.cond rfl (fun h0 => ?_) (fun h0 => ?_)
  · skip
    have hi : i < ts.length := by simpa using h0
    have hr1 := hr _ (List.getElem_mem hi)
    have hr2 := bod_len (fun x hx => hr x (List.mem_of_mem_take hx)) (ts := ts.take i)
    have hdup := nodup_take (l := ts.map (·.1)) (i := i) (by simpa using hi)
    rw [List.map_take.symm, List.map_take.symm, List.getElem_map] at hdup
    have hnew : ts[i].1 ∉ (ts.take i).map (·.1) := (hdup.1 (by rw [List.map_take]; exact hnd.sublist (List.take_sublist _ _))).2
    have hnone : lookS ts[i].1 (bodL (ts.take i)) = none := by rw [look_bod, bod_none hnew]; rfl
    refine Tri.skip ?_
    repeat refine Tri.seq ?_
    refine Tri.block ?_
    refine yR ?_
    refine s_val (v_index SS (h0 := by omega) (hp := kt_get hi)) ?_
    refine yL ?_
    refine s_alloc SS 5 ?_
    refine yS ?_
    refine e_seqN [5] ?_
    refine yR ?_
    refine yL ?_
    refine yY ?_
    refine yF ?_
    refine yL ?_
    refine yF ?_
    refine yL ?_
    refine yF ?_
    refine yL ?_
    refine step_insert SS (u := .pu (tmc 0 ts[i].2)) rfl rfl rfl rfl (VImp.refl _) rfl (VImp.refl _) rfl (mapE_ty _) (sum_cond _ [] ).2.2.1 (findE_none hr1 hr2 hnone) (labs := []) (fun l' h => by rw [NoLab.ok] at h; exact h) ?_
    refine e_draw ?_
    refine yR ?_
    refine yI ?_
    refine yM ?_
    refine e_seq ?_
    refine ⟨i + 1, by omega, le_of ?_ ?_⟩
    · repeat (first | exact SubE.nil | refine SubE.cons rfl (by first | rfl | (rw [wrap64 (by omega) (by omega)]; rfl) | (simp only [bodL_take hi, mapE_append])) ?_)
    · repeat (first | exact SubH.nil | refine SubH.cons rfl (by first | rfl | (rw [wrap64 (by omega) (by omega)]; rfl) | (simp only [bodL_take hi, mapE_append])) ?_)
  · skip
    have hi : ts.length ≤ i := by simpa using h0
    rw [List.take_of_length_le hi]
    refine Tri.exit ?_
    refine yR ?_
    refine yB ?_
    refine e_seq ?_
    refine yR ?_
    refine yL ?_
    refine yM ?_
    refine s_call (open831_c) ?_
    refine yM ?_
    refine s_call (open832_c) ?_
    refine yM ?_
    refine s_val (v_mkFnD SS) ?_
    refine s_call (open833_c) ?_
    refine yM ?_
    refine s_call (open834_c) ?_
    refine yM ?_
    refine s_call (open835_c) ?_
    refine yM ?_
    refine s_call (open836_c) ?_
    refine yP ?_
    refine yY ?_
    refine yF ?_
    refine yS ?_
    refine e_drawN [831, 832, 833, 834, 835, 836] ?_
    refine yR ?_
    refine yL ?_
    refine yA ?_
    refine e_seq ?_
    repeat refine Tri.seq ?_
    exact Tri.ret ⟨.inr rfl, ret1 rfl resV_tmp (VImp.refl _), by repeat (first | exact OutH.nil | refine OutH.cons rfl (by first | exact ObImp.refl _ | exact OWk.imp (by repeat constructor)) ?_)⟩
end Go.Proofs.YtkcgkignhpepkaaDoor

/- The kind of a step; what a Def becomes. -/
namespace Go.Proofs.YtkcgkignhpepkaaDoor
open Go Hs
variable {G : List (Nat × TypeId × Pu)}

theorem byDef_c (a b : Pu) (ts : List KT) (hts : ∀ x ∈ ts, x.1.length = 32) (t y : Tm) (hy : bodM t.ref ts = some y) : HCall Tryd.prog G 73 [.pu (tmc 0 t), .ptr 823 [] 114] (ruO a b ts) [] (.pu (tmc 0 y)) [] [] := by
  obtain ⟨k, n, r, ks, cs⟩ := t
  simp only [Tm.ref] at hy
  refine HCall.of_triD tbl 11 [] Tryd.func73 rfl rfl rfl fun w0 M ρ0 D0 => ?_
  refine Tri.fact (i := 0) rfl (fun D w x h => tm_wf h) (fun hr => ?_)
  have hget : mapGet Tryd.prog SS 23 30 (refP r) (mapE (bodL ts)) = some (.pu (tmc 0 y), true) := mapGet_some hr.1 (bod_len hts) (by rw [look_bod, hy]; rfl)
  refine yR ?_
  refine s_box SS 2 ?_
  refine s_alloc SS 3 ?_
  refine e_seqN [2, 3] ?_
  refine yR ?_
  refine yL ?_
  refine yY ?_
  refine yF ?_
  refine yL ?_
  refine yF ?_
  refine yL ?_
  refine s_val (v_lookup SS rfl rfl rfl (VImp.refl _) (mapE_ty _) (sum_cond _ []).2.2.1 hget) ?_
  refine yS ?_
  refine e_draw ?_
  repeat refine Tri.seq ?_
  exact Tri.ret ⟨.inr rfl, ret1 rfl resV_cell (VImp.refl _), by repeat (first | exact OutH.nil | refine OutH.cons rfl (by first | exact ObImp.refl _ | exact OWk.imp (by repeat constructor)) ?_)⟩

theorem here833_c (a b : Pu) (ts : List KT) (hts : ∀ x ∈ ts, x.1.length = 32) (t0 : Tm) (p : List Nat) (hok : okP t0 p) (hN : tsize t0 < 2^28) (y : Tm) (hy : bodM (walkM t0 p).ref ts = some y) :
    HCall Tryd.prog G 69 [.pu (siteP p (wayM t0 p)), .ptr 833 [] 39] (ruO a b ts) [] (.pu (tmc 0 (hereM t0 p y))) [] [] := by
  have hpl := path_size hok
  have hwl := way_len hok
  have hat := at_c (G := G) p (wayM t0 p) (by omega)
  have hwg := way_get hok (Nat.le_refl p.length)
  rw [List.take_length, List.getElem?_eq_getElem (by omega)] at hwg
  simp only [Option.some.injEq] at hwg
  rw [hwg] at hat
  have hkw : ∀ t ∈ wayM t0 p, t.kids.length < 2^30 := fun t ht => by have := way_mem hok t ht; have := kids_le t; omega
  refine HCall.of_triD tbl 13 [] Tryd.func69 rfl rfl rfl fun w0 M ρ0 D0 => ?_
  refine yR ?_
  refine s_box SS 2 ?_
  refine s_alloc SS 3 ?_
  refine e_seqN [2, 3] ?_
  refine yR ?_
  refine yL ?_
  refine yF ?_
  refine yK ?_
  refine yC ?_
  refine yL ?_
  refine yL ?_
  refine s_val (v_callD (fun _ => hat)) ?_
  refine s_val (v_callO (fun _ => byDef_c a b ts hts (walkM t0 p) y hy)) ?_
  refine s_val (v_callD (fun _ => filled_c2 p (wayM t0 p) 0 y (by omega) (fun i hi => way_kid hok i hi) hkw (by omega) (by omega))) ?_
  refine yS ?_
  refine e_draw ?_
  repeat refine Tri.seq ?_
  exact Tri.ret ⟨.inr rfl, ret1 rfl resV_cell (VImp.refl _), by repeat (first | exact OutH.nil | refine OutH.cons rfl (by first | exact ObImp.refl _ | exact OWk.imp (by repeat constructor)) ?_)⟩

def kindW (ts : List KT) (way : List Tm) (len : Nat) : Tm → Int
  | .mk k n r ks cs =>
    if k = 4 then (match ks[0]? with | some f => cond (f.kind == 3) 1 8 | none => 8)
    else if k = 5 then 2
    else if k = 6 then cond (bodM r ts).isSome 3 8
    else if k = 10 then cond (ks.all (fun x => x.kind == 2)) 4 8
    else if k = 9 then (match ks[0]? with | some v => cond ((matchM cs v).kind != 0) 5 8 | none => 8)
    else if k = 11 then (if handM way r len < 0 then 9 else match way[(handM way r len).toNat]? with
      | some h => cond (decide ((h.kids.length : Int) > 2 + n)) 6 8
      | none => 8)
    else if k = 12 then 7 else 8
def kindM (ts : List KT) (t0 : Tm) (p : List Nat) : Int := kindW ts (wayM t0 p) p.length (walkM t0 p)

theorem hand_lt (way : List Tm) (r : List Int) : ∀ n, handM way r n < n ∧ -1 ≤ handM way r n
  | 0 => by simp [handM]
  | n + 1 => by
    have := hand_lt way r n
    simp only [handM]
    split
    · split
      · constructor <;> omega
      · omega
    · omega

theorem kind1_c (t : Tm) : FCall Tryd.prog G 78 [.pu (tmc 0 t)] (bv (t.kind == 2)) := by
  obtain ⟨k, n, r, ks, cs⟩ := t
  refine FCall.of_tri tbl 6 Tryd.func78 rfl rfl rfl fun w0 M ρ0 D0 => ?_
  refine yR ?_
  refine s_box SS 1 ?_
  refine yB ?_
  refine e_seqN [1] ?_
  refine yR ?_
  refine yF ?_
  refine yL ?_
  refine yI ?_
  refine yA ?_
  refine e_seq ?_
  repeat refine Tri.seq ?_
  exact Tri.ret ⟨.inr rfl, ret1 rfl resV_tmp (ToPu.imp (by repeat constructor))⟩

set_option maxHeartbeats 2000000 in
theorem kind_c (a b : Pu) (ts : List KT) (hts : ∀ x ∈ ts, x.1.length = 32) (t0 : Tm) (p : List Nat) (hok : okP t0 p) (hN : tsize t0 < 2^28) (hsh : kidsM (walkM t0 p).kind (walkM t0 p).kids.length = true) (hnum : (walkM t0 p).kind = 11 → 0 ≤ (walkM t0 p).num ∧ (walkM t0 p).num ≤ 7) :
    HCall Tryd.prog G 59 [.ptr 820 [] 125, .pu (siteP p (wayM t0 p))] (ruO a b ts) [] (iv .i64 (kindM ts t0 p)) [] [] := by
  have hpl := path_size hok
  have hwl := way_len hok
  have hat := at_c (G := G) p (wayM t0 p) (by omega)
  have hwg := way_get hok (Nat.le_refl p.length)
  rw [List.take_length, List.getElem?_eq_getElem (by omega)] at hwg
  simp only [Option.some.injEq] at hwg
  rw [hwg] at hat
  have hsz := walk_size (t := t0) (p := p)
  have hmem : walkM t0 p ∈ wayM t0 p := hwg ▸ List.getElem_mem _
  unfold kindM
  generalize hw : walkM t0 p = w at hat hsh hnum hsz hmem ⊢
  obtain ⟨k, n, r, ks, cs⟩ := w
  simp only [Tm.kind, Tm.kids, Tm.num] at hsh hnum
  have hszk : 1 + tsizeL ks + csizeL cs ≤ tsize t0 := by simpa only [tsize] using hsz
  have hlen := length_tsizeL ks
  have hhl := hand_lt (wayM t0 p) r p.length
  refine HCall.of_triD tbl 76 [] Tryd.func59 rfl rfl rfl fun w0 M ρ0 D0 => ?_
  refine Tri.fact (i := 1) rfl (fun D w x h => site_wf h) (fun hr0 => ?_)
  have hrl : r.length = 32 := (wfTs_mem hr0 _ hmem).1
  refine yR ?_
  refine s_box SS 3 ?_
  refine yB ?_
  refine e_seqN [3] ?_
  refine yR ?_
  refine yL ?_
  refine s_val (v_callD (fun _ => hat)) ?_
  refine s_alloc SS 5 ?_
  refine yS ?_
  refine e_seqN [5] ?_
  refine yR ?_
  refine yF ?_
  refine yL ?_
  refine e_seq ?_
  repeat refine Tri.seq ?_
  refine Tri.block ?_
  refine yR ?_
  refine yI ?_
  refine yA ?_
  refine e_seq ?_
  repeat refine Tri.seq ?_
  refine Tri.cond rfl (fun h0 => ?_) (fun h0 => ?_)
  · skip
    have hk : k = 4 := by simpa using h0
    have h2 : 0 < ks.length := by rw [hk] at hsh; simp [kidsM] at hsh; omega
    have g0 := tms_get (lo := 0) h2
    have hsp : kindW ts (wayM t0 p) p.length (.mk k n r ks cs) = cond ((ks[0]).kind == 3) 1 8 := by simp only [kindW, hk, List.getElem?_eq_getElem h2] <;> rfl
    generalize ks[0] = f at g0 hsp
    obtain ⟨fk, fn, fr, fks, fcs⟩ := f
    simp only [Tm.kind] at hsp
    refine yR ?_
    refine yF ?_
    refine yK ?_
    refine s_val (v_index SS (h0 := by omega) (hp := g0)) ?_
    refine yF ?_
    refine yL ?_
    refine yI ?_
    refine e_seq ?_
    repeat refine Tri.seq ?_
    refine Tri.cond rfl (fun h1 => ?_) (fun h1 => ?_)
    · skip
      rw [h1] at hsp
      refine yR ?_
      refine yB ?_
      refine e_seq ?_
      repeat refine Tri.seq ?_
      exact Tri.ret ⟨.inr rfl, ret1 rfl resV_tmp (iv_imp (by first | exact hsp.symm | cases h4)), by repeat (first | exact OutH.nil | refine OutH.cons rfl (by first | exact ObImp.refl _ | exact OWk.imp (by repeat constructor)) ?_)⟩
    · skip
      rw [h1] at hsp
      refine Tri.skip ?_
      refine yR ?_
      refine yB ?_
      refine e_seq ?_
      repeat refine Tri.seq ?_
      exact Tri.ret ⟨.inr rfl, ret1 rfl resV_tmp (iv_imp (by first | exact hsp.symm | cases h4)), by repeat (first | exact OutH.nil | refine OutH.cons rfl (by first | exact ObImp.refl _ | exact OWk.imp (by repeat constructor)) ?_)⟩
  · skip
    refine yR ?_
    refine yI ?_
    refine yA ?_
    refine e_seq ?_
    repeat refine Tri.seq ?_
    refine Tri.cond rfl (fun h2 => ?_) (fun h2 => ?_)
    · skip
      have hk : k = 5 := by simpa using h2
      have hsp : kindW ts (wayM t0 p) p.length (.mk k n r ks cs) = 2 := by simp only [kindW, hk] <;> rfl
      refine yR ?_
      refine yB ?_
      refine e_seq ?_
      repeat refine Tri.seq ?_
      exact Tri.ret ⟨.inr rfl, ret1 rfl resV_tmp (iv_imp (by first | exact hsp.symm | cases h4)), by repeat (first | exact OutH.nil | refine OutH.cons rfl (by first | exact ObImp.refl _ | exact OWk.imp (by repeat constructor)) ?_)⟩
    · skip
      refine yR ?_
      refine yI ?_
      refine yA ?_
      refine e_seq ?_
      repeat refine Tri.seq ?_
      refine Tri.cond rfl (fun h3 => ?_) (fun h3 => ?_)
      · skip
        have hk : k = 6 := by simpa using h3
        have hsp : kindW ts (wayM t0 p) p.length (.mk k n r ks cs) = cond (bodM r ts).isSome 3 8 := by simp only [kindW, hk] <;> rfl
        rcases hb : bodM r ts with _ | y
        all_goals
          rw [hb] at hsp
          refine yR ?_
          refine yM ?_
          refine yY ?_
          refine yF ?_
          refine yL ?_
          refine yF ?_
          refine yL ?_
          first | refine s_val (v_lookup SS rfl rfl rfl (VImp.refl _) (mapE_ty _) (sum_cond _ []).2.2.1 (mapGet_some hrl (bod_len hts) (by rw [look_bod, hb]; rfl))) ?_ | refine s_val (v_lookup SS rfl rfl rfl (VImp.refl _) (mapE_ty _) (sum_cond _ []).2.2.1 (mapGet_none (z := .agg 30 [iv .i64 0, iv .i64 0, .pu (refP Z32), .nilc, .nilc]) (by kernel_rfl) hrl (bod_len hts) (by rw [look_bod, hb]; rfl))) ?_
          refine yM ?_
          refine yX ?_
          refine yX ?_
          refine s_alloc SS 6 ?_
          refine yS ?_
          refine yA ?_
          refine e_drawN [6] ?_
          refine yR ?_
          refine yM ?_
          refine e_seq ?_
          repeat refine Tri.seq ?_
          refine Tri.cond rfl (fun h4 => ?_) (fun h4 => ?_)
          · skip
            refine yR ?_
            refine yB ?_
            refine e_seq ?_
            repeat refine Tri.seq ?_
            exact Tri.ret ⟨.inr rfl, ret1 rfl resV_tmp (iv_imp (by first | exact hsp.symm | cases h4)), by repeat (first | exact OutH.nil | refine OutH.cons rfl (by first | exact ObImp.refl _ | exact OWk.imp (by repeat constructor)) ?_)⟩
          · skip
            refine Tri.skip ?_
            refine yR ?_
            refine yB ?_
            refine e_seq ?_
            repeat refine Tri.seq ?_
            exact Tri.ret ⟨.inr rfl, ret1 rfl resV_tmp (iv_imp (by first | exact hsp.symm | cases h4)), by repeat (first | exact OutH.nil | refine OutH.cons rfl (by first | exact ObImp.refl _ | exact OWk.imp (by repeat constructor)) ?_)⟩
      · skip
        refine yR ?_
        refine yI ?_
        refine yA ?_
        refine e_seq ?_
        repeat refine Tri.seq ?_
        refine Tri.cond rfl (fun h5 => ?_) (fun h5 => ?_)
        · skip
          have hk : k = 10 := by simpa using h5
          have hsp : kindW ts (wayM t0 p) p.length (.mk k n r ks cs) = cond (ks.all (fun x => x.kind == 2)) 4 8 := by simp only [kindW, hk] <;> rfl
          refine yR ?_
          refine yF ?_
          refine yK ?_
          refine s_val (v_callD (fun _ => every_c 78 (by kernel_rfl) (fun x => x.kind == 2) ks (by omega) (fun x _ => kind1_c x))) ?_
          refine e_seq ?_
          repeat refine Tri.seq ?_
          refine Tri.cond rfl (fun h6 => ?_) (fun h6 => ?_)
          · skip
            rw [h6] at hsp
            refine yR ?_
            refine yB ?_
            refine e_seq ?_
            repeat refine Tri.seq ?_
            exact Tri.ret ⟨.inr rfl, ret1 rfl resV_tmp (iv_imp (by first | exact hsp.symm | cases h4)), by repeat (first | exact OutH.nil | refine OutH.cons rfl (by first | exact ObImp.refl _ | exact OWk.imp (by repeat constructor)) ?_)⟩
          · skip
            rw [h6] at hsp
            refine Tri.skip ?_
            refine yR ?_
            refine yB ?_
            refine e_seq ?_
            repeat refine Tri.seq ?_
            exact Tri.ret ⟨.inr rfl, ret1 rfl resV_tmp (iv_imp (by first | exact hsp.symm | cases h4)), by repeat (first | exact OutH.nil | refine OutH.cons rfl (by first | exact ObImp.refl _ | exact OWk.imp (by repeat constructor)) ?_)⟩
        · skip
          refine yR ?_
          refine yI ?_
          refine yA ?_
          refine e_seq ?_
          repeat refine Tri.seq ?_
          refine Tri.cond rfl (fun h7 => ?_) (fun h7 => ?_)
          · skip
            have hk : k = 9 := by simpa using h7
            have h2 : 0 < ks.length := by rw [hk] at hsh; simp [kidsM] at hsh; omega
            have hmc := matched_c (G := G) k n r ks cs h2 (by simp only [tsize]; omega)
            have hsp : kindW ts (wayM t0 p) p.length (.mk k n r ks cs) = cond ((matchM cs ks[0]).kind != 0) 5 8 := by simp only [kindW, hk, List.getElem?_eq_getElem h2] <;> rfl
            generalize matchM cs ks[0] = y at hmc hsp
            obtain ⟨yk, yn, yr, yks, ycs⟩ := y
            simp only [Tm.kind] at hsp
            refine yR ?_
            refine yL ?_
            refine s_val (v_callD (fun _ => hmc.at (u := .pu (tmc 0 (.mk yk yn yr yks ycs))) (fun m => (tmc_low (Nat.zero_le m) _).imp))) ?_
            refine s_val (v_getField SS (ht := TyV.ok)) ?_
            refine yI ?_
            refine e_seq ?_
            repeat refine Tri.seq ?_
            refine Tri.cond rfl (fun h8 => ?_) (fun h8 => ?_)
            · skip
              rw [h8] at hsp
              refine yR ?_
              refine yB ?_
              refine e_seq ?_
              repeat refine Tri.seq ?_
              exact Tri.ret ⟨.inr rfl, ret1 rfl resV_tmp (iv_imp (by first | exact hsp.symm | cases h4)), by repeat (first | exact OutH.nil | refine OutH.cons rfl (by first | exact ObImp.refl _ | exact OWk.imp (by repeat constructor)) ?_)⟩
            · skip
              rw [h8] at hsp
              refine Tri.skip ?_
              refine yR ?_
              refine yB ?_
              refine e_seq ?_
              repeat refine Tri.seq ?_
              exact Tri.ret ⟨.inr rfl, ret1 rfl resV_tmp (iv_imp (by first | exact hsp.symm | cases h4)), by repeat (first | exact OutH.nil | refine OutH.cons rfl (by first | exact ObImp.refl _ | exact OWk.imp (by repeat constructor)) ?_)⟩
          · skip
            refine yR ?_
            refine yI ?_
            refine yA ?_
            refine e_seq ?_
            repeat refine Tri.seq ?_
            refine Tri.cond rfl (fun h9 => ?_) (fun h9 => ?_)
            · skip
              have hk : k = 11 := by simpa using h9
              have hnum := hnum hk
              have hsp : kindW ts (wayM t0 p) p.length (.mk k n r ks cs) = (if handM (wayM t0 p) r p.length < 0 then 9 else match (wayM t0 p)[(handM (wayM t0 p) r p.length).toNat]? with | some h => cond (decide ((h.kids.length : Int) > 2 + n)) 6 8 | none => 8) := by simp only [kindW, hk] <;> rfl
              refine yR ?_
              refine yL ?_
              refine s_val (v_mkFnD SS) ?_
              refine yA ?_
              refine e_seq ?_
              refine yR ?_
              refine yM ?_
              refine yF ?_
              refine yL ?_
              refine yF ?_
              refine yL ?_
              refine yP ?_
              refine s_val (v_callO (fun _ => handler_c p (wayM t0 p) r n (by omega) (by omega))) ?_
              refine yA ?_
              refine e_seq ?_
              repeat refine Tri.seq ?_
              refine Tri.block ?_
              refine yR ?_
              refine yM ?_
              refine yI ?_
              refine yA ?_
              refine e_seq ?_
              repeat refine Tri.seq ?_
              refine Tri.cond rfl (fun h10 => ?_) (fun h10 => ?_)
              · skip
                rw [if_pos (by simpa using h10)] at hsp
                refine yR ?_
                refine yB ?_
                refine e_seq ?_
                repeat refine Tri.seq ?_
                exact Tri.ret ⟨.inr rfl, ret1 rfl resV_tmp (iv_imp (by first | exact hsp.symm | cases h4)), by repeat (first | exact OutH.nil | refine OutH.cons rfl (by first | exact ObImp.refl _ | exact OWk.imp (by repeat constructor)) ?_)⟩
              · skip
                have hnn : 0 ≤ handM (wayM t0 p) r p.length := by simpa using h10
                rw [if_neg (by omega)] at hsp
                have hlt : (handM (wayM t0 p) r p.length).toNat < (wayM t0 p).length := by omega
                have gw := tms_get (lo := 0) hlt
                rw [List.getElem?_eq_getElem hlt] at hsp
                simp only at hsp
                generalize (wayM t0 p)[(handM (wayM t0 p) r p.length).toNat] = x at gw hsp
                obtain ⟨xk, xn, xr, xks, xcs⟩ := x
                simp only [Tm.kids] at hsp
                refine yR ?_
                refine yF ?_
                refine yK ?_
                refine yM ?_
                refine s_val (v_index SS (h0 := hnn) (hp := gw)) ?_
                refine yF ?_
                refine yK ?_
                refine yC ?_
                refine yF ?_
                refine yL ?_
                refine yI ?_
                refine yI ?_
                refine yA ?_
                refine e_draw ?_
                repeat refine Tri.seq ?_
                refine Tri.cond rfl (fun h11 => ?_) (fun h11 => ?_)
                · skip
                  rw [tms_length, wrap64 (by omega) (by omega)] at h11
                  replace hsp := hsp.trans (show _ = (6 : Int) from by have h := of_decide_eq_true h11; simp [h])
                  refine yR ?_
                  refine yB ?_
                  refine e_seq ?_
                  repeat refine Tri.seq ?_
                  exact Tri.ret ⟨.inr rfl, ret1 rfl resV_tmp (iv_imp (by first | exact hsp.symm | cases h4)), by repeat (first | exact OutH.nil | refine OutH.cons rfl (by first | exact ObImp.refl _ | exact OWk.imp (by repeat constructor)) ?_)⟩
                · skip
                  rw [tms_length, wrap64 (by omega) (by omega)] at h11
                  replace hsp := hsp.trans (show _ = (8 : Int) from by have h := of_decide_eq_false h11; simp only [gt_iff_lt] at h; simp [h])
                  refine Tri.skip ?_
                  refine yR ?_
                  refine yB ?_
                  refine e_seq ?_
                  repeat refine Tri.seq ?_
                  exact Tri.ret ⟨.inr rfl, ret1 rfl resV_tmp (iv_imp (by first | exact hsp.symm | cases h4)), by repeat (first | exact OutH.nil | refine OutH.cons rfl (by first | exact ObImp.refl _ | exact OWk.imp (by repeat constructor)) ?_)⟩
            · skip
              refine yR ?_
              refine yI ?_
              refine yA ?_
              refine e_seq ?_
              repeat refine Tri.seq ?_
              refine Tri.cond rfl (fun h12 => ?_) (fun h12 => ?_)
              · skip
                have hk : k = 12 := by simpa using h12
                have hsp : kindW ts (wayM t0 p) p.length (.mk k n r ks cs) = 7 := by simp only [kindW, hk] <;> rfl
                refine yR ?_
                refine yB ?_
                refine e_seq ?_
                repeat refine Tri.seq ?_
                exact Tri.ret ⟨.inr rfl, ret1 rfl resV_tmp (iv_imp (by first | exact hsp.symm | cases h4)), by repeat (first | exact OutH.nil | refine OutH.cons rfl (by first | exact ObImp.refl _ | exact OWk.imp (by repeat constructor)) ?_)⟩
              · skip
                have hsp : kindW ts (wayM t0 p) p.length (.mk k n r ks cs) = 8 := by
                  simp only [beq_eq_false_iff_ne, ne_eq] at h0 h2 h3 h5 h7 h9 h12
                  simp only [kindW, if_neg h0, if_neg h2, if_neg h3, if_neg h5, if_neg h7, if_neg h9, if_neg h12]
                refine Tri.skip ?_
                refine yR ?_
                refine yB ?_
                refine e_seq ?_
                repeat refine Tri.seq ?_
                exact Tri.ret ⟨.inr rfl, ret1 rfl resV_tmp (iv_imp (by first | exact hsp.symm | cases h4)), by repeat (first | exact OutH.nil | refine OutH.cons rfl (by first | exact ObImp.refl _ | exact OWk.imp (by repeat constructor)) ?_)⟩
end Go.Proofs.YtkcgkignhpepkaaDoor

/- Shapes and sizes of what comes of a step. -/
namespace Go.Proofs.YtkcgkignhpepkaaDoor
open Go Hs

variable {mn md : Int}
mutual
theorem longP_n : ∀ (p : Pat) (d c : Int), (longP mn md d c p).1 = false → (longP mn md d c p).2 = c + psize p
  | .mk _ _ _ ks, d, c, h => by
    simp only [longP, psize] at h ⊢
    split at h
    · cases h
    · rename_i hn
      rw [if_neg hn]
      have := longPs_n ks (d + 1) (c + 1) h
      rw [this]; omega
theorem longPs_n : ∀ (ks : List Pat) (d c : Int), (longPs mn md d c ks).1 = false → (longPs mn md d c ks).2 = c + psizeL ks
  | [], d, c, h => by simp [longPs, psizeL]
  | p :: ps, d, c, h => by
    have h1 := longP_n p d c
    simp only [longPs, psizeL] at h ⊢
    rcases hs : longP mn md d c p with ⟨b, c'⟩
    rw [hs] at h1 h
    cases b
    · have h1 := h1 rfl
      have h2 := longPs_n ps d c' h
      simp only at h1 h2 ⊢
      rw [h2, h1]; omega
    · cases h
end
mutual
theorem longT_n : ∀ (t : Tm) (d c : Int), (longT mn md d c t).1 = false → (longT mn md d c t).2 = c + tsize t
  | .mk _ _ _ ks cs, d, c, h => by
    simp only [longT, tsize] at h ⊢
    split at h
    · cases h
    · rename_i hn
      rw [if_neg hn]
      have h1 := longTs_n ks (d + 1) (c + 1)
      rcases hs : longTs mn md (d + 1) (c + 1) ks with ⟨b, c'⟩
      rw [hs] at h1 h
      cases b
      · have h1 := h1 rfl
        have h2 := longCs_n cs (d + 1) c' h
        simp only at h1 h2 ⊢
        rw [h2, h1]; omega
      · cases h
theorem longTs_n : ∀ (ks : List Tm) (d c : Int), (longTs mn md d c ks).1 = false → (longTs mn md d c ks).2 = c + tsizeL ks
  | [], d, c, h => by simp [longTs, tsizeL]
  | p :: ps, d, c, h => by
    have h1 := longT_n p d c
    simp only [longTs, tsizeL] at h ⊢
    rcases hs : longT mn md d c p with ⟨b, c'⟩
    rw [hs] at h1 h
    cases b
    · have h1 := h1 rfl
      have h2 := longTs_n ps d c' h
      simp only at h1 h2 ⊢
      rw [h2, h1]; omega
    · cases h
theorem longC_n : ∀ (x : Cs) (d c : Int), (longC mn md d c x).1 = false → (longC mn md d c x).2 = c + csize x
  | .mk p t, d, c, h => by
    have h1 := longP_n (mn := mn) (md := md) p d c
    simp only [longC, csize] at h ⊢
    rcases hs : longP mn md d c p with ⟨b, c'⟩
    rw [hs] at h1 h
    cases b
    · have h1 := h1 rfl
      have h2 := longT_n t d c' h
      simp only at h1 h2 ⊢
      rw [h2, h1]; omega
    · cases h
theorem longCs_n : ∀ (ks : List Cs) (d c : Int), (longCs mn md d c ks).1 = false → (longCs mn md d c ks).2 = c + csizeL ks
  | [], d, c, h => by simp [longCs, csizeL]
  | p :: ps, d, c, h => by
    have h1 := longC_n p d c
    simp only [longCs, csizeL] at h ⊢
    rcases hs : longC mn md d c p with ⟨b, c'⟩
    rw [hs] at h1 h
    cases b
    · have h1 := h1 rfl
      have h2 := longCs_n ps d c' h
      simp only at h1 h2 ⊢
      rw [h2, h1]; omega
    · cases h
end
theorem long_size {t : Tm} {d c : Int} (hc : c ≤ mn) (h : (longT mn md d c t).1 = false) : c + tsize t ≤ mn := by
  have h1 := longT_n t d c h
  have h2 := (longT_b (mn := mn) (md := md) t d c hc).2.2 h
  omega

theorem sh_none : shT noneM := by simp [noneM, shT, shL, shC, kidsM]
theorem sh_nat (n : Int) : shT (natM n) := by simp [natM, shT, shL, shC, kidsM]
theorem sh_var : shT varM := by simp [varM, shT, shL, shC, kidsM]
mutual
theorem sh_put (vs : List Tm) (hv : ∀ v ∈ vs, shT v) : ∀ (t : Tm) (d : Int), shT t → shT (putM vs d t)
  | .mk k n r ks cs, d, h => by
    simp only [shT] at h
    obtain ⟨h1, h2, h3, h4⟩ := h
    have k1 := sh_putK vs hv ks d k 0 h3
    have k2 := sh_putC vs hv cs d h4
    simp only [putM]
    split
    · rename_i hC
      split
      · exact hv _ (List.getElem_mem _)
      · refine ⟨by rw [putK_len]; exact h1, fun e => ?_, k1, k2⟩
        rw [hC.1] at e; cases e
    · exact ⟨by rw [putK_len]; exact h1, h2, k1, k2⟩
theorem sh_putK (vs : List Tm) (hv : ∀ v ∈ vs, shT v) : ∀ (ks : List Tm) (d k : Int) (i : Nat), shL ks → shL (putK vs d k i ks)
  | [], _, _, _, _ => trivial
  | t :: ts, d, k, i, h => ⟨sh_put vs hv t _ h.1, sh_putK vs hv ts d k (i + 1) h.2⟩
theorem sh_putC (vs : List Tm) (hv : ∀ v ∈ vs, shT v) : ∀ (cs : List Cs) (d : Int), shC cs → shC (putC vs d cs)
  | [], _, _ => trivial
  | c :: cs, d, h => ⟨sh_putS vs hv c d h.1, sh_putC vs hv cs d h.2⟩
theorem sh_putS (vs : List Tm) (hv : ∀ v ∈ vs, shT v) : ∀ (c : Cs) (d : Int), shS c → shS (putS vs d c)
  | .mk q t, d, h => sh_put vs hv t _ h
end
theorem sh_kid {t x : Tm} {i : Nat} (h : shT t) (hx : t.kids[i]? = some x) : shT x := by
  obtain ⟨k, n, r, ks, cs⟩ := t
  exact shL_mem h.2.2.1 _ (List.mem_of_getElem? hx)
theorem sh_walk : ∀ {t : Tm} {p : List Nat}, shT t → shT (walkM t p)
  | t, [], h => h
  | t, i :: p, h => by
    simp only [walkM]
    split
    · rename_i x hx; exact sh_walk (sh_kid h hx)
    · exact h
theorem shL_set : ∀ {ks : List Tm} {j : Nat} {x : Tm}, shL ks → shT x → shL (ks.set j x)
  | [], _, _, _, _ => trivial
  | t :: ts, 0, x, h, hx => ⟨hx, h.2⟩
  | t :: ts, j + 1, x, h, hx => ⟨h.1, shL_set h.2 hx⟩
theorem sh_set {t x : Tm} {j : Nat} (h : shT t) (hx : shT x) : shT (setKid t j x) := by
  obtain ⟨k, n, r, ks, cs⟩ := t
  exact ⟨by rw [List.length_set]; exact h.1, h.2.1, shL_set h.2.2.1 hx, h.2.2.2⟩
theorem sh_fill {t : Tm} {p : List Nat} (hok : okP t p) (ht : shT t) (lo : Nat) : ∀ (hi : Nat) (x : Tm), hi ≤ p.length → shT x → shT (fillM (wayM t p) p lo hi x)
  | 0, x, _, h => h
  | n + 1, x, hn, h => by
    simp only [fillM]
    split
    · exact h
    · rw [way_get hok (by omega), List.getElem?_eq_getElem (show n < p.length by omega)]
      exact sh_fill hok ht lo n _ (by omega) (sh_set (sh_walk ht) h)
mutual
theorem sh_fits : ∀ (p : Pat) (v : Tm), shT v → ∀ x ∈ (fitsM p v).1, shT x
  | .mk k n r ks, v, h, x, hx => by
    simp only [fitsM] at hx
    split at hx
    · simp at hx; rw [hx]; exact h
    · split at hx
      · simp at hx
      · split at hx
        · split at hx
          · simp at hx
          · obtain ⟨k', n', r', ks', cs'⟩ := v
            exact sh_fitsL ks ks' h.2.2.1 x hx
        · simp at hx
theorem sh_fitsL : ∀ (ps : List Pat) (vs : List Tm), shL vs → ∀ x ∈ (fitsL ps vs).1, shT x
  | [], vs, _, x, hx => by simp [fitsL] at hx
  | _ :: _, [], _, x, hx => by simp [fitsL] at hx
  | p :: ps, v :: vs, h, x, hx => by
    simp only [fitsL, fitAdd] at hx
    split at hx
    · rcases List.mem_append.1 hx with h' | h'
      · exact sh_fits p v h.1 x h'
      · exact sh_fitsL ps vs h.2 x h'
    · simp at hx
end
theorem sh_match : ∀ (cs : List Cs) (v : Tm), shC cs → shT v → shT (matchM cs v)
  | [], v, _, _ => sh_none
  | .mk q b :: cs, v, h, hv => by
    simp only [matchM]
    split
    · exact sh_put _ (sh_fits q v hv) b 0 h.1
    · exact sh_match cs v h.2 hv

mutual
theorem put_size (vs : List Tm) (B : Nat) (hv : ∀ v ∈ vs, tsize v ≤ B) : ∀ (t : Tm) (d : Int), tsize (putM vs d t) ≤ tsize t * (1 + B)
  | .mk k n r ks cs, d => by
    have k1 := put_sizeK vs B hv ks d k 0
    have k2 := put_sizeC vs B hv cs d
    have e : tsize (.mk k n r ks cs) * (1 + B) = (1 + B) + tsizeL ks * (1 + B) + csizeL cs * (1 + B) := by simp only [tsize]; rw [Nat.add_mul, Nat.add_mul, Nat.one_mul]
    rw [e]
    simp only [putM]
    split
    · split
      · have := hv _ (List.getElem_mem (l := vs) (n := vs.length - 1 - (IntKind.wrap .i64 (n - d)).toNat) (by omega))
        omega
      · simp only [tsize]; omega
    · simp only [tsize]; omega
theorem put_sizeK (vs : List Tm) (B : Nat) (hv : ∀ v ∈ vs, tsize v ≤ B) : ∀ (ks : List Tm) (d k : Int) (i : Nat), tsizeL (putK vs d k i ks) ≤ tsizeL ks * (1 + B)
  | [], _, _, _ => by simp [putK, tsizeL]
  | t :: ts, d, k, i => by
    have h1 := put_size vs B hv t (d + moreM k i)
    have h2 := put_sizeK vs B hv ts d k (i + 1)
    simp only [putK, tsizeL, Nat.add_mul]; omega
theorem put_sizeC (vs : List Tm) (B : Nat) (hv : ∀ v ∈ vs, tsize v ≤ B) : ∀ (cs : List Cs) (d : Int), csizeL (putC vs d cs) ≤ csizeL cs * (1 + B)
  | [], _ => by simp [putC, csizeL]
  | c :: cs, d => by
    have h1 := put_sizeS vs B hv c d
    have h2 := put_sizeC vs B hv cs d
    simp only [putC, csizeL, Nat.add_mul]; omega
theorem put_sizeS (vs : List Tm) (B : Nat) (hv : ∀ v ∈ vs, tsize v ≤ B) : ∀ (c : Cs) (d : Int), csize (putS vs d c) ≤ csize c * (1 + B)
  | .mk q t, d => by
    have h1 := put_size vs B hv t (d + bindsM q)
    have h2 : psize q ≤ psize q * (1 + B) := Nat.le_mul_of_pos_right _ (by omega)
    simp only [putS, csize, Nat.add_mul] at h1 h2 ⊢; omega
end
theorem match_size : ∀ (cs : List Cs) (v : Tm), tsize (matchM cs v) ≤ (1 + csizeL cs) * (1 + tsize v)
  | [], v => by simp [matchM, noneM, tsize, tsizeL, csizeL]
  | .mk q b :: cs, v => by
    have h1 := put_size (fitsM q v).1 (tsize v) (fits_sz q v) b 0
    have h2 := match_size cs v
    have h3 : tsize b * (1 + tsize v) ≤ (1 + (psize q + tsize b + csizeL cs)) * (1 + tsize v) := Nat.mul_le_mul_right _ (by omega)
    have h4 : (1 + csizeL cs) * (1 + tsize v) ≤ (1 + (psize q + tsize b + csizeL cs)) * (1 + tsize v) := Nat.mul_le_mul_right _ (by omega)
    simp only [matchM, csizeL, csize]
    split <;> omega
end Go.Proofs.YtkcgkignhpepkaaDoor

/- What a kind of step makes of the whole, kind by kind. -/
namespace Go.Proofs.YtkcgkignhpepkaaDoor
open Go Hs
variable {G : List (Nat × TypeId × Pu)}

theorem orE_zero {a b : Int} (h : orE a b = 0) : a = 0 ∧ b = 0 := by
  unfold orE at h
  split at h
  · exact ⟨by assumption, h⟩
  · contradiction
theorem termErr_sh {m d b k n : Int} {r : List Int} {nk nc : Int} (h : termErr m d b k n r nk nc = 0) : kidsM k nk = true ∧ (k = 11 → 0 ≤ n ∧ n ≤ 7) := by
  unfold termErr at h
  cases h1 : offM k 1 12 with
  | true => simp [h1] at h
  | false =>
  cases h2 : clashM (hasNumM k) (hasRefM k) (hasCasesM k) n r nc with
  | true => simp [h1, h2] at h
  | false =>
  cases h3 : (!kidsM k nk || decide (nc > 8)) with
  | true => rw [h1, h2, h3] at h; simp at h
  | false =>
  rw [h1, h2, h3] at h
  refine ⟨by simp at h3; exact h3.1, fun e => ?_⟩
  subst e
  simp [offM] at h
  omega
mutual
theorem aerr_sh {m d : Int} : ∀ (t : Tm) (b : Int), aerr m d b t = 0 → shT t
  | .mk k n r ks cs, b, h => by
    simp only [aerr] at h
    obtain ⟨h1, h⟩ := orE_zero h
    obtain ⟨_, h⟩ := orE_zero h
    obtain ⟨h2, h3⟩ := orE_zero h
    obtain ⟨k1, k2⟩ := termErr_sh h1
    exact ⟨k1, k2, aerrK_sh ks b k 0 h2, aerrC_sh cs b h3⟩
theorem aerrK_sh {m d : Int} : ∀ (ks : List Tm) (b k : Int) (i : Nat), aerrK m d b k i ks = 0 → shL ks
  | [], _, _, _, _ => trivial
  | t :: ts, b, k, i, h => by
    simp only [aerrK] at h
    obtain ⟨h1, h2⟩ := orE_zero h
    exact ⟨aerr_sh t _ h1, aerrK_sh ts b k (i + 1) h2⟩
theorem aerrC_sh {m d : Int} : ∀ (cs : List Cs) (b : Int), aerrC m d b cs = 0 → shC cs
  | [], _, _ => trivial
  | c :: cs, b, h => by
    simp only [aerrC] at h
    obtain ⟨h1, h2⟩ := orE_zero h
    exact ⟨aerrS_sh c b h1, aerrC_sh cs b h2⟩
theorem aerrS_sh {m d : Int} : ∀ (c : Cs) (b : Int), aerrCs m d b c = 0 → shS c
  | .mk q t, b, h => aerr_sh t _ h
end
theorem check_sh {t : Tm} {d m : Int} (h : checkM t d m = 0) : shT t ∧ tsize t ≤ 300 := by
  unfold checkM at h
  split at h
  · cases h
  · rename_i hl
    have := long_size (mn := 300) (md := 60) (t := t) (d := 1) (c := 0) (by omega) (by simpa using hl)
    exact ⟨aerr_sh t 0 h, by omega⟩

def appM (w : Tm) : Tm := match w.kids[0]?, w.kids[1]? with
  | some f, some x => match f.kids[0]? with
    | some b => putM [x] 0 b
    | none => noneM
  | _, _ => noneM
def letM (w : Tm) : Tm := match w.kids[0]?, w.kids[1]? with
  | some x, some b => putM [x] 0 b
  | _, _ => noneM
def priM (w : Tm) : Tm := match w.kids[0]?, w.kids[1]? with
  | some x, some y => primM w.num x.num y.num
  | _, _ => noneM
def matM (w : Tm) : Tm := match w.kids[0]? with
  | some v => matchM w.cases v
  | none => noneM
def doM (t0 : Tm) (p : List Nat) : Tm :=
  match (walkM t0 p).kids[0]?, (walkM t0 (p.take (handM (wayM t0 p) (walkM t0 p).ref p.length).toNat)).kids[(2 + (walkM t0 p).num).toNat]? with
  | some a, some b => fillM (wayM t0 p) p 0 (handM (wayM t0 p) (walkM t0 p).ref p.length).toNat (putM [a, backM t0 p (handM (wayM t0 p) (walkM t0 p).ref p.length).toNat] 0 b)
  | _, _ => noneM
def doesM (ts : List KT) (t0 : Tm) (p : List Nat) (k : Int) : Tm :=
  if k = 1 then hereM t0 p (appM (walkM t0 p)) else if k = 2 then hereM t0 p (letM (walkM t0 p)) else if k = 3 then hereM t0 p ((bodM (walkM t0 p).ref ts).getD noneM)
  else if k = 4 then hereM t0 p (priM (walkM t0 p)) else if k = 5 then hereM t0 p (matM (walkM t0 p)) else if k = 6 then doM t0 p else hereM t0 p (letM (walkM t0 p))

theorem kind_mk {k n : Int} {r : List Int} {ks : List Tm} {cs : List Cs} : (Tm.mk k n r ks cs).kind = k := rfl
theorem num_mk {k n : Int} {r : List Int} {ks : List Tm} {cs : List Cs} : (Tm.mk k n r ks cs).num = n := rfl
theorem ref_mk {k n : Int} {r : List Int} {ks : List Tm} {cs : List Cs} : (Tm.mk k n r ks cs).ref = r := rfl
theorem kids_mk {k n : Int} {r : List Int} {ks : List Tm} {cs : List Cs} : (Tm.mk k n r ks cs).kids = ks := rfl
theorem kind_inv {ts : List KT} {way : List Tm} {len : Nat} {w : Tm} {j : Int} (h : kindW ts way len w = j) :
    (j = 1 → w.kind = 4 ∧ ∃ f, w.kids[0]? = some f ∧ f.kind = 3) ∧ (j = 2 → w.kind = 5) ∧ (j = 3 → w.kind = 6 ∧ (bodM w.ref ts).isSome = true) ∧ (j = 4 → w.kind = 10) ∧ (j = 5 → w.kind = 9) ∧
    (j = 6 → w.kind = 11 ∧ 0 ≤ handM way w.ref len ∧ ∃ x, way[(handM way w.ref len).toNat]? = some x ∧ (x.kids.length : Int) > 2 + w.num) ∧ (j = 7 → w.kind = 12) ∧ (1 ≤ j ∧ j ≤ 9) ∧ (j = 9 → w.kind = 11) := by
  obtain ⟨k, n, r, ks, cs⟩ := w
  simp only [kind_mk, kids_mk, ref_mk, num_mk]
  simp only [kindW] at h
  subst h
  split
  · subst k
    cases hf : ks[0]? with
    | none => simp
    | some f =>
      simp only
      generalize hb : (f.kind == 3) = bb
      cases bb
      · simp
      · have : f.kind = 3 := by simpa using hb
        simp [this]
  · split
    · simp_all
    · split
      · subst k
        generalize hb : (bodM r ts).isSome = bb
        cases bb <;> simp
      · split
        · generalize hb : ks.all (fun x => x.kind == 2) = bb
          cases bb <;> simp_all
        · split
          · subst k
            cases hf : ks[0]? with
            | none => simp
            | some f =>
              simp only
              generalize hb : ((matchM cs f).kind != 0) = bb
              cases bb <;> simp
          · split
            · subst k
              split
              · simp
              · rename_i hn
                cases hx : way[(handM way r len).toNat]? with
                | none => simp
                | some x =>
                  simp only
                  generalize hb : decide ((x.kids.length : Int) > 2 + n) = bb
                  cases bb
                  · simp
                  · have := of_decide_eq_true hb
                    simp only [cond_true]
                    refine ⟨fun e => by omega, fun e => by omega, fun e => by omega, fun e => by omega, fun e => by omega, fun _ => ⟨trivial, by omega, x, rfl, this⟩, fun e => by omega, by omega, fun e => by omega⟩
            · split
              · simp_all
              · simp

theorem len2 {t : Tm} (h : shT t) (hk : t.kind = 4 ∨ t.kind = 5 ∨ t.kind = 10) : ∃ x y, t.kids[0]? = some x ∧ t.kids[1]? = some y := by
  obtain ⟨k, n, r, ks, cs⟩ := t
  have := h.1
  simp only [Tm.kind, Tm.kids] at hk ⊢
  have hl : ks.length = 2 := by rcases hk with rfl | rfl | rfl <;> simp [kidsM] at this <;> omega
  exact ⟨ks[0], ks[1], by simp [hl], by simp [hl]⟩
theorem len1 {t : Tm} (h : shT t) (hk : t.kind = 3 ∨ t.kind = 9 ∨ t.kind = 11) : ∃ x, t.kids[0]? = some x := by
  obtain ⟨k, n, r, ks, cs⟩ := t
  have := h.1
  simp only [Tm.kind, Tm.kids] at hk ⊢
  have hl : ks.length = 1 := by rcases hk with rfl | rfl | rfl <;> simp [kidsM] at this <;> omega
  exact ⟨ks[0], by simp [hl]⟩
theorem len12 {t : Tm} (h : shT t) (hk : t.kind = 12) : ∃ x y, t.kids[0]? = some x ∧ t.kids[1]? = some y := by
  obtain ⟨k, n, r, ks, cs⟩ := t
  have := h.1
  simp only [Tm.kind, Tm.kids] at hk ⊢
  have hl : 2 ≤ ks.length := by subst hk; simp [kidsM, offM] at this; omega
  exact ⟨ks[0], ks[1], List.getElem?_eq_getElem _, List.getElem?_eq_getElem _⟩
end Go.Proofs.YtkcgkignhpepkaaDoor

/- What each kind of step makes of the whole: contracts. -/
namespace Go.Proofs.YtkcgkignhpepkaaDoor
open Go Hs
variable {G : List (Nat × TypeId × Pu)}

theorem lowAt {P : Program} (t : Tm) : ∀ m, VImp P (.pu (tmc m t)) (.pu (tmc 0 t)) := fun m => (tmc_low (Nat.zero_le m) t).imp
theorem does1_c {ts : List KT} {t0 : Tm} {p : List Nat} (hs : shT t0) (hok : okP t0 p) (hN : tsize t0 < 2^28) (hk : kindM ts t0 p = 1) : HCall Tryd.prog G 69 [.pu (siteP p (wayM t0 p)), .ptr 831 [] 39] [(831, .var 39 (fV 71))] [] (.pu (tmc 0 (doesM ts t0 p 1))) [] [] := by
  obtain ⟨h4, f, hf, hf3⟩ := (kind_inv hk).1 rfl
  have hw := sh_walk (p := p) hs
  obtain ⟨x, y, hx, hy⟩ := len2 hw (.inl h4)
  obtain ⟨b, hb⟩ := len1 (sh_kid hw hf) (.inl hf3)
  have hsz := walk_size (t := t0) (p := p)
  have e : doesM ts t0 p 1 = hereM t0 p (putM [y] 0 b) := by simp [doesM, appM, hf, hy, hb]
  rw [e]
  exact here831_c _ (by kernel_rfl) t0 p hok hN _ ((byApp_c (walkM t0 p) f y b hf hy hb (by omega)).at (lowAt _))
theorem does2_c {ts : List KT} {t0 : Tm} {p : List Nat} (hs : shT t0) (hok : okP t0 p) (hN : tsize t0 < 2^28) (hk : kindM ts t0 p = 2) : HCall Tryd.prog G 69 [.pu (siteP p (wayM t0 p)), .ptr 832 [] 39] [(832, .var 39 (fV 72))] [] (.pu (tmc 0 (doesM ts t0 p 2))) [] [] := by
  have h5 := (kind_inv hk).2.1 rfl
  have hw := sh_walk (p := p) hs
  obtain ⟨x, y, hx, hy⟩ := len2 hw (.inr (.inl h5))
  have hsz := walk_size (t := t0) (p := p)
  have e : doesM ts t0 p 2 = hereM t0 p (putM [x] 0 y) := by simp [doesM, letM, hx, hy]
  rw [e]
  exact here832_c _ (by kernel_rfl) t0 p hok hN _ ((byLet_c (walkM t0 p) x y hx hy (by omega)).at (lowAt _))
theorem does3_c (a b : Pu) {ts : List KT} (hts : ∀ x ∈ ts, x.1.length = 32) {t0 : Tm} {p : List Nat} (hok : okP t0 p) (hN : tsize t0 < 2^28) (hk : kindM ts t0 p = 3) : HCall Tryd.prog G 69 [.pu (siteP p (wayM t0 p)), .ptr 833 [] 39] (ruO a b ts) [] (.pu (tmc 0 (doesM ts t0 p 3))) [] [] := by
  obtain ⟨_, h6⟩ := (kind_inv hk).2.2.1 rfl
  obtain ⟨y, hy⟩ := Option.isSome_iff_exists.1 h6
  have e : doesM ts t0 p 3 = hereM t0 p y := by simp [doesM, hy]
  rw [e]
  exact here833_c a b ts hts t0 p hok hN y hy
theorem does4_c {ts : List KT} {t0 : Tm} {p : List Nat} (hs : shT t0) (hok : okP t0 p) (hN : tsize t0 < 2^28) (hk : kindM ts t0 p = 4) : HCall Tryd.prog G 69 [.pu (siteP p (wayM t0 p)), .ptr 834 [] 39] [(834, .var 39 (fV 74))] [] (.pu (tmc 0 (doesM ts t0 p 4))) [] [] := by
  have h10 := (kind_inv hk).2.2.2.1 rfl
  have hw := sh_walk (p := p) hs
  obtain ⟨x, y, hx, hy⟩ := len2 hw (.inr (.inr h10))
  have e : doesM ts t0 p 4 = hereM t0 p (primM (walkM t0 p).num x.num y.num) := by simp [doesM, priM, hx, hy]
  rw [e]
  refine here834_c _ (by kernel_rfl) t0 p hok hN _ ?_
  generalize walkM t0 p = w at hx hy ⊢
  obtain ⟨k, n, r, ks, cs⟩ := w
  simp only [kids_mk] at hx hy
  obtain ⟨hx1, hx2⟩ := List.getElem?_eq_some_iff.1 hx
  obtain ⟨hy1, hy2⟩ := List.getElem?_eq_some_iff.1 hy
  subst hx2 hy2
  exact (prim_c k n r ks cs (by omega)).at (lowAt _)
theorem does5_c {ts : List KT} {t0 : Tm} {p : List Nat} (hs : shT t0) (hok : okP t0 p) (hN : tsize t0 < 2^28) (hk : kindM ts t0 p = 5) : HCall Tryd.prog G 69 [.pu (siteP p (wayM t0 p)), .ptr 835 [] 39] [(835, .var 39 (fV 75))] [] (.pu (tmc 0 (doesM ts t0 p 5))) [] [] := by
  have h9 := (kind_inv hk).2.2.2.2.1 rfl
  have hw := sh_walk (p := p) hs
  obtain ⟨x, hx⟩ := len1 hw (.inr (.inl h9))
  have hsz := walk_size (t := t0) (p := p)
  have e : doesM ts t0 p 5 = hereM t0 p (matchM (walkM t0 p).cases x) := by simp [doesM, matM, hx]
  rw [e]
  refine here835_c _ (by kernel_rfl) t0 p hok hN _ ?_
  generalize walkM t0 p = w at hx hsz ⊢
  obtain ⟨k, n, r, ks, cs⟩ := w
  simp only [kids_mk] at hx
  obtain ⟨hx1, hx2⟩ := List.getElem?_eq_some_iff.1 hx
  subst hx2
  exact (matched_c k n r ks cs (by omega) (by omega)).at (lowAt _)
theorem does6_c {ts : List KT} {t0 : Tm} {p : List Nat} (hs : shT t0) (hok : okP t0 p) (hN : tsize t0 < 2^28) (hk : kindM ts t0 p = 6) : FCall Tryd.prog G 76 [.pu (siteP p (wayM t0 p))] (.pu (tmc 0 (doesM ts t0 p 6))) := by
  obtain ⟨h11, hn0, x, hx1, hx2⟩ := (kind_inv hk).2.2.2.2.2.1 rfl
  have hw := sh_walk (p := p) hs
  obtain ⟨v, hv⟩ := len1 hw (.inr (.inr h11))
  have hlt := hand_lt (wayM t0 p) (walkM t0 p).ref p.length
  have hnum : 0 ≤ (walkM t0 p).num ∧ (walkM t0 p).num ≤ 7 := by
    generalize walkM t0 p = w at hw h11 ⊢
    obtain ⟨k, n, r, ks, cs⟩ := w
    exact hw.2.1 h11
  obtain ⟨nn, hnn⟩ : ∃ nn, nn = (handM (wayM t0 p) (walkM t0 p).ref p.length).toNat := ⟨_, rfl⟩
  have hnp : nn < p.length := by omega
  rw [← hnn, way_get hok (by omega)] at hx1
  simp only [Option.some.injEq] at hx1
  obtain ⟨b, hb⟩ : ∃ b, (walkM t0 (p.take nn)).kids[(2 + (walkM t0 p).num).toNat]? = some b := by
    rw [hx1]
    exact ⟨_, List.getElem?_eq_getElem (by omega)⟩
  have e : doesM ts t0 p 6 = fillM (wayM t0 p) p 0 nn (putM [v, backM t0 p nn] 0 b) := by
    simp only [doesM, doM, ← hnn, hv, hb]; rfl
  rw [e]
  exact do_c t0 p hok hN nn v b (by omega) hnp ⟨hnum.1, by omega⟩ hv hb
theorem does7_c {ts : List KT} {t0 : Tm} {p : List Nat} (hs : shT t0) (hok : okP t0 p) (hN : tsize t0 < 2^28) (hk : kindM ts t0 p = 7) : HCall Tryd.prog G 69 [.pu (siteP p (wayM t0 p)), .ptr 836 [] 39] [(836, .var 39 (fV 77))] [] (.pu (tmc 0 (doesM ts t0 p 7))) [] [] := by
  have h12 := (kind_inv hk).2.2.2.2.2.2.1 rfl
  have hw := sh_walk (p := p) hs
  obtain ⟨x, y, hx, hy⟩ := len12 hw h12
  have hsz := walk_size (t := t0) (p := p)
  have e : doesM ts t0 p 7 = hereM t0 p (putM [x] 0 y) := by simp [doesM, letM, hx, hy]
  rw [e]
  exact here836_c _ (by kernel_rfl) t0 p hok hN _ ((byRet_c (walkM t0 p) x y hx hy (by omega)).at (lowAt _))

theorem sh_prim (op a b : Int) : shT (primM op a b) := sh_nat _
theorem sh_bod {s : List Int} {y : Tm} : ∀ {ts : List KT}, (∀ x ∈ ts, shT x.2) → bodM s ts = some y → shT y
  | [], _, h => by cases h
  | x :: ts, h, hy => by
    simp only [bodM] at hy
    split at hy
    · simp at hy; rw [← hy]; exact h x (by simp)
    · exact sh_bod (fun z hz => h z (by simp [hz])) hy
theorem sz_bod {s : List Int} {y : Tm} {B : Nat} : ∀ {ts : List KT}, (∀ x ∈ ts, tsize x.2 ≤ B) → bodM s ts = some y → tsize y ≤ B
  | [], _, h => by cases h
  | x :: ts, h, hy => by
    simp only [bodM] at hy
    split at hy
    · simp at hy; rw [← hy]; exact h x (by simp)
    · exact sz_bod (fun z hz => h z (by simp [hz])) hy
/-- The shape stays; the size is bounded. -/
theorem does_sh {ts : List KT} (hb : ∀ x ∈ ts, shT x.2) {t0 : Tm} {p : List Nat} (hs : shT t0) (hok : okP t0 p) (k : Int) : shT (doesM ts t0 p k) := by
  have hw := sh_walk (p := p) hs
  have here : ∀ y, shT y → shT (hereM t0 p y) := fun y hy => sh_fill hok hs 0 _ _ (Nat.le_refl _) hy
  have hput : ∀ x y, shT x → shT y → shT (putM [x] 0 y) := fun x y hx hy => sh_put _ (fun v hv => by simp at hv; rw [hv]; exact hx) _ _ hy
  have hlet : shT (letM (walkM t0 p)) := by
    unfold letM
    split
    · rename_i x b h1 h2; exact hput _ _ (sh_kid hw h1) (sh_kid hw h2)
    · exact sh_none
  unfold doesM
  split
  · refine here _ ?_
    unfold appM
    split
    · rename_i f x h1 h2
      split
      · rename_i b h3; exact hput _ _ (sh_kid hw h2) (sh_kid (sh_kid hw h1) h3)
      · exact sh_none
    · exact sh_none
  split
  · exact here _ hlet
  split
  · refine here _ ?_
    cases hy : bodM (walkM t0 p).ref ts with
    | none => exact sh_none
    | some y => exact sh_bod hb hy
  split
  · refine here _ ?_
    unfold priM
    split
    · exact sh_prim _ _ _
    · exact sh_none
  split
  · refine here _ ?_
    unfold matM
    split
    · rename_i v hv
      have hv' := sh_kid hw hv
      generalize walkM t0 p = w at hw
      obtain ⟨k, n, r, ks, cs⟩ := w
      exact sh_match _ _ hw.2.2.2 hv'
    · exact sh_none
  split
  · unfold doM
    split
    · rename_i a b h1 h2
      have hlt := hand_lt (wayM t0 p) (walkM t0 p).ref p.length
      refine sh_fill hok hs 0 _ _ (by omega) (sh_put _ (fun v hv => ?_) _ _ (sh_kid (sh_walk hs) h2))
      simp at hv
      rcases hv with rfl | rfl
      · exact sh_kid hw h1
      · refine ⟨by simp [kidsM], fun e => (by cases e), ⟨sh_fill hok hs _ _ _ (Nat.le_refl _) sh_var, trivial⟩, trivial⟩
    · exact sh_none
  · exact here _ hlet
theorem does_sz {ts : List KT} (hb : ∀ x ∈ ts, tsize x.2 ≤ 300) {t0 : Tm} {p : List Nat} (hok : okP t0 p) (hN : tsize t0 ≤ 3000) (k : Int) : tsize (doesM ts t0 p k) ≤ 9012000 := by
  have hw := walk_size (t := t0) (p := p)
  have hn1 : tsize noneM = 1 := by simp [noneM, tsize, tsizeL, csizeL]
  have here : ∀ y, tsize y ≤ 9009000 → tsize (hereM t0 p y) ≤ 9012000 := fun y hy => by
    have := fill_size hok 0 p.length y (Nat.le_refl _)
    unfold hereM; omega
  have hput : ∀ (vs : List Tm) y, (∀ v ∈ vs, tsize v ≤ 3002) → tsize y ≤ 3000 → tsize (putM vs 0 y) ≤ 9009000 := fun vs y hv hy => by
    have h1 := put_size vs 3002 hv y 0
    have h2 : tsize y * (1 + 3002) ≤ 9009000 := by omega
    omega
  have hlet : tsize (letM (walkM t0 p)) ≤ 9009000 := by
    unfold letM
    split
    · rename_i x b h1 h2
      have := kid_size h1; have := kid_size h2
      exact hput _ _ (fun v hv => by simp at hv; subst hv; omega) (by omega)
    · omega
  unfold doesM
  split
  · refine here _ ?_
    unfold appM
    split
    · rename_i f x h1 h2
      split
      · rename_i b h3
        have := kid_size h1; have := kid_size h2; have := kid_size h3
        exact hput _ _ (fun v hv => by simp at hv; subst hv; omega) (by omega)
      · omega
    · omega
  split
  · exact here _ hlet
  split
  · refine here _ ?_
    cases hy : bodM (walkM t0 p).ref ts with
    | none => simp only [Option.getD]; omega
    | some y => have := sz_bod hb hy; simp only [Option.getD]; omega
  split
  · refine here _ ?_
    unfold priM
    split
    · simp [primM, natM, tsize, tsizeL, csizeL]
    · omega
  split
  · refine here _ ?_
    unfold matM
    split
    · rename_i v hv
      have h1 := kid_size hv
      have h2 := match_size (walkM t0 p).cases v
      have h3 : 1 + csizeL (walkM t0 p).cases ≤ 3000 := by
        generalize walkM t0 p = w at hw
        obtain ⟨k, n, r, ks, cs⟩ := w
        simp only [tsize] at hw
        simp only [Tm.cases]; omega
      have h4 : (1 + csizeL (walkM t0 p).cases) * (1 + tsize v) ≤ 9009000 := by
        have := Nat.mul_le_mul h3 (show 1 + tsize v ≤ 3001 by omega)
        omega
      omega
    · omega
  split
  · unfold doM
    split
    · rename_i a b h1 h2
      have hlt := hand_lt (wayM t0 p) (walkM t0 p).ref p.length
      have k1 := kid_size h1
      have k2 := kid_size h2
      have k3 := walk_size (t := t0) (p := p.take (handM (wayM t0 p) (walkM t0 p).ref p.length).toNat)
      have k4 := fill_size hok (handM (wayM t0 p) (walkM t0 p).ref p.length).toNat p.length varM (Nat.le_refl _)
      have hsv : tsize varM = 1 := by simp [varM, tsize, tsizeL, csizeL]
      have k5 := hput [a, backM t0 p (handM (wayM t0 p) (walkM t0 p).ref p.length).toNat] b (fun v hv => by
        simp at hv
        rcases hv with rfl | rfl
        · omega
        · simp only [backM, tsize, tsizeL, csizeL]; omega) (by omega)
      have k6 := fill_size hok 0 (handM (wayM t0 p) (walkM t0 p).ref p.length).toNat (putM [a, backM t0 p (handM (wayM t0 p) (walkM t0 p).ref p.length).toNat] 0 b) (by omega)
      omega
    · omega
  · exact here _ hlet
end Go.Proofs.YtkcgkignhpepkaaDoor

/- Runs. -/
namespace Go.Proofs.YtkcgkignhpepkaaDoor
open Go Hs
variable {G : List (Nat × TypeId × Pu)}

theorem right_c (t : Tm) (hN : tsize t < 2^40) : FCall Tryd.prog G 52 [.pu (tmc 0 t)] (bv (checkM t 60 8 == 0)) := by
  refine FCall.of_tri tbl 6 Tryd.func52 rfl rfl rfl fun w0 M ρ0 D0 => ?_
  refine yR ?_
  refine s_box SS 1 ?_
  refine yB ?_
  refine e_seqN [1] ?_
  refine yR ?_
  refine yL ?_
  refine s_val (v_callD (fun _ => check_c t hN 60 8)) ?_
  refine yI ?_
  refine yA ?_
  refine e_seq ?_
  repeat refine Tri.seq ?_
  exact Tri.ret ⟨.inr rfl, ret1 rfl resV_tmp (ToPu.imp (by repeat constructor))⟩

structure EndM where
  kind : Int
  steps : Int
  term : Tm
  ref : List Int
  num : Int
def endP (e : EndM) : Pu := .agg 60 [.leaf (.int .i64 e.kind), .leaf (.int .i64 e.steps), tmc 0 e.term, refP e.ref, .leaf (.int .i64 e.num)]
instance (e : EndM) : TyV Tryd.prog 60 (.pu (endP e)) := inferInstanceAs (TyV Tryd.prog 60 (.pu (.agg _ _)))
def endZ : EndM := ⟨0, 0, noneM, Z32, 0⟩
def ranE (ts : List KT) (steps : Nat) (t : Tm) : Option EndM :=
  if valM t then some ⟨0, steps, t, Z32, 0⟩
  else if kindM ts t (placeM t) = 9 then some ⟨9, steps, ((walkM t (placeM t)).kids[0]?).getD noneM, (walkM t (placeM t)).ref, (walkM t (placeM t)).num⟩
  else if kindM ts t (placeM t) = 8 then some ⟨8, steps, noneM, Z32, 0⟩ else none
def nextM (ts : List KT) (t : Tm) : Tm := doesM ts t (placeM t) (kindM ts t (placeM t))
def ranM (ts : List KT) : Nat → Nat → Tm → EndM × Int
  | 0, steps, t => match ranE ts steps t with
    | some e => (e, 0)
    | none => (⟨10, steps, noneM, Z32, 0⟩, 0)
  | left + 1, steps, t => match ranE ts steps t with
    | some e => (e, 0)
    | none => if (longT 3000 200 1 0 (nextM ts t)).1 then (endZ, 12) else ranM ts left (steps + 1) (nextM ts t)
theorem ran_some {ts : List KT} {left steps : Nat} {t : Tm} {e : EndM} (h : ranE ts steps t = some e) : ranM ts left steps t = (e, 0) := by
  cases left <;> simp only [ranM, h]
abbrev ranV (x : EndM × Int) : PV := .tup [.pu (endP x.1), iv .i64 x.2]

set_option maxHeartbeats 4000000 in
theorem ran_c (a b : Pu) (ts : List KT) (hnd : (ts.map (·.1)).Nodup) (hl : ts.length < 2^40) (hbs : ∀ x ∈ ts, shT x.2) (hbz : ∀ x ∈ ts, tsize x.2 ≤ 300) (t0 : Tm) (hs0 : shT t0) (hz0 : tsize t0 ≤ 3000) (fuel : Nat) (hf : fuel ≤ 2000) :
    FCall Tryd.prog G 51 [.pu (wdP a b ts), .pu (tmc 0 t0), iv .i64 fuel] (ranV (ranM ts fuel 0 t0)) := by
  refine FCall.of_tri tbl 73 Tryd.func51 rfl rfl rfl fun w0 M ρ0 D0 => ?_
  refine Tri.fact (i := 0) rfl (fun D w x h => wd_wf h) (fun hts => ?_)
  refine yR ?_
  refine s_box SS 3 ?_
  refine s_box SS 4 ?_
  refine s_alloc SS 6 ?_
  refine yB ?_
  refine e_seqN [3, 4, 6] ?_
  refine yR ?_
  refine yL ?_
  refine s_call (opened_c a b ts hnd hl) ?_
  refine yA ?_
  refine e_seqN [822, 820, 823, 831, 832, 833, 834, 835, 836] ?_
  refine yR ?_
  refine yM ?_
  refine yI ?_
  refine yJ ?_
  refine e_seq ?_
  repeat refine Tri.seq ?_
  refine Tri.block (Tri.loopW (σ := {q : Nat × Tm // q.1 ≤ fuel ∧ ranM ts fuel 0 t0 = ranM ts (fuel - q.1) q.1 q.2 ∧ shT q.2 ∧ tsize q.2 ≤ 3000}) (fun i => ⟨[(2, iv .i64 fuel), (4, .ptr 4 [] 30), (6, .ptr 6 [] 60), (8, .ptr 820 [] 125), (17, iv .i64 (fuel + 1)), (18, iv .i64 i.1.1)], [(4, .var 30 (.pu (tmc 0 i.1.2))), (6, .var 60 (.agg 60 [iv .i64 0, iv .i64 0, .agg 30 [iv .i64 0, iv .i64 0, .pu (refP Z32), .nilc, .nilc], .pu (refP Z32), iv .i64 0]))] ++ ruO a b ts⟩) (fun i => fuel - i.1.1) ⟨(0, t0), Nat.zero_le _, rfl, hs0, hz0⟩ ?_ ?_ (fun i => ?_))
  · repeat (first | exact .nil | refine .cons rfl (by first | exact .refl | (focus ((repeat constructor); done)) | (rw [wrap64 (by omega) (by omega)]; exact .refl)) ?_)
  · repeat (first | exact .nil | refine .cons rfl (by first | exact .refl | (focus ((repeat constructor); done)) | (rw [wrap64 (by omega) (by omega)]; exact .refl)) ?_)
  refine yR ?_
  refine yI ?_
  refine e_seq ?_
  repeat refine Tri.seq ?_
  refine Tri.cond rfl (fun h0 => ?_) (fun h0 => ?_)
  · skip
    obtain ⟨⟨st, t⟩, hst, hrn, hsh, hsz⟩ := i
    dsimp only at hst hrn hsh hsz ⊢
    have hok := place_ok hsh
    have hN : tsize t < 2^28 := by omega
    have hwl := way_len hok
    have hat := at_c (G := G) (placeM t) (wayM t (placeM t)) (by omega)
    have hwg := way_get hok (Nat.le_refl (placeM t).length)
    rw [List.take_length, List.getElem?_eq_getElem (by omega)] at hwg
    simp only [Option.some.injEq] at hwg
    rw [hwg] at hat
    have hwsh := sh_walk (p := placeM t) hsh
    have hkc := kind_c (G := G) a b ts hts t (placeM t) hok hN (by generalize walkM t (placeM t) = w at hwsh; obtain ⟨k, n, r, ks, cs⟩ := w; exact hwsh.1) (by generalize walkM t (placeM t) = w at hwsh; obtain ⟨k, n, r, ks, cs⟩ := w; exact hwsh.2.1)
    have hki := kind_inv (show kindW ts (wayM t (placeM t)) (placeM t).length (walkM t (placeM t)) = kindM ts t (placeM t) from rfl)
    generalize hkk : kindM ts t (placeM t) = kk at hkc hki
    refine Tri.skip ?_
    repeat refine Tri.seq ?_
    refine Tri.block ?_
    refine yR ?_
    refine yM ?_
    refine yA ?_
    refine e_seq ?_
    refine yR ?_
    refine yL ?_
    refine s_val (v_callD (fun _ => value_c _ t (Nat.le_refl _) (by omega))) ?_
    refine e_seq ?_
    repeat refine Tri.seq ?_
    refine Tri.cond rfl (fun h1 => ?_) (fun h1 => ?_)
    · skip
      have hfin : ranM ts fuel 0 t0 = (⟨0, st, t, Z32, 0⟩, 0) := by rw [hrn]; exact ran_some (by simp only [ranE, h1, if_true])
      refine yR ?_
      refine yM ?_
      refine yL ?_
      refine yP ?_
      refine yS ?_
      refine yB ?_
      refine e_seq ?_
      repeat refine Tri.seq ?_
      exact Tri.ret ⟨.inr rfl, ret2 rfl resV_cell ((by rw [hfin]; exact ToPu.imp (by repeat constructor))) resV_tmp ((by rw [hfin]; exact VImp.refl _))⟩
    · skip
      have hv : ¬ valM t = true := by rw [h1]; decide
      refine Tri.skip ?_
      refine yR ?_
      refine yL ?_
      refine s_val (v_callD (fun _ => found_c t hsh (by omega))) ?_
      refine s_alloc SS 10 ?_
      refine yS ?_
      refine e_seqN [10] ?_
      refine yR ?_
      refine yM ?_
      refine yL ?_
      refine s_val (v_callO (fun _ => hkc)) ?_
      refine yA ?_
      refine e_seq ?_
      refine yR ?_
      refine yL ?_
      refine s_val (v_callD (fun _ => hat)) ?_
      refine s_alloc SS 12 ?_
      refine yS ?_
      refine e_seqN [12] ?_
      repeat refine Tri.seq ?_
      refine Tri.block ?_
      refine yR ?_
      refine yM ?_
      refine yI ?_
      refine yA ?_
      refine e_seq ?_
      repeat refine Tri.seq ?_
      refine Tri.cond rfl (fun h2 => ?_) (fun h2 => ?_)
      · skip
        have h9 : kk = 9 := by simpa using h2
        obtain ⟨x, hx⟩ := len1 hwsh (.inr (.inr (hki.2.2.2.2.2.2.2.2 h9)))
        have hfin : ranM ts fuel 0 t0 = (⟨9, st, x, (walkM t (placeM t)).ref, (walkM t (placeM t)).num⟩, 0) := by rw [hrn]; exact ran_some (by simp only [ranE, if_neg hv, hkk, h9, if_true, hx, Option.getD])
        generalize walkM t (placeM t) = w at hx hfin ⊢
        obtain ⟨k, n, r, ks, cs⟩ := w
        simp only [kids_mk, ref_mk, num_mk] at hx hfin
        have hxg : (tmsc 0 ks)[0]? = some (tmc 0 x) := by simp [tms_eq, hx]
        refine yR ?_
        refine yM ?_
        refine yF ?_
        refine yK ?_
        refine s_val (v_index SS (h0 := by omega) (hp := hxg)) ?_
        refine yL ?_
        refine yF ?_
        refine yL ?_
        refine yF ?_
        refine yL ?_
        refine yP ?_
        refine yS ?_
        refine yB ?_
        refine e_draw ?_
        repeat refine Tri.seq ?_
        exact Tri.ret ⟨.inr rfl, ret2 rfl resV_cell ((by rw [hfin]; exact ToPu.imp (by repeat constructor))) resV_tmp ((by rw [hfin]; exact VImp.refl _))⟩
      · skip
        have h9 : ¬ kk = 9 := by simpa using h2
        refine yR ?_
        refine yM ?_
        refine yI ?_
        refine yA ?_
        refine e_seq ?_
        repeat refine Tri.seq ?_
        refine Tri.cond rfl (fun h3 => ?_) (fun h3 => ?_)
        · skip
          have h8 : kk = 8 := by simpa using h3
          have hfin : ranM ts fuel 0 t0 = (⟨8, st, noneM, Z32, 0⟩, 0) := by rw [hrn]; exact ran_some (by simp only [ranE, if_neg hv, hkk, h8]; rfl)
          refine yR ?_
          refine yM ?_
          refine yP ?_
          refine yS ?_
          refine yB ?_
          refine e_seq ?_
          repeat refine Tri.seq ?_
          exact Tri.ret ⟨.inr rfl, ret2 rfl resV_cell ((by rw [hfin]; exact ToPu.imp (by unfold noneM; repeat constructor))) resV_tmp ((by rw [hfin]; exact VImp.refl _))⟩
        · skip
          have h8 : ¬ kk = 8 := by simpa using h3
          have hre : ranE ts st t = none := by simp only [ranE, if_neg hv, hkk, if_neg h9, if_neg h8]
          refine yR ?_
          refine yM ?_
          refine yM ?_
          refine yI ?_
          refine yA ?_
          refine e_seq ?_
          repeat refine Tri.seq ?_
          refine Tri.cond rfl (fun h4 => ?_) (fun h4 => ?_)
          · skip
            have hsf : st = fuel := by simp at h4; omega
            have hfin : ranM ts fuel 0 t0 = (⟨10, st, noneM, Z32, 0⟩, 0) := by rw [hrn, show fuel - st = 0 by omega]; simp only [ranM, hre]
            refine yR ?_
            refine yM ?_
            refine yP ?_
            refine yS ?_
            refine yB ?_
            refine e_seq ?_
            repeat refine Tri.seq ?_
            exact Tri.ret ⟨.inr rfl, ret2 rfl resV_cell ((by rw [hfin]; exact ToPu.imp (by unfold noneM; repeat constructor))) resV_tmp ((by rw [hfin]; exact VImp.refl _))⟩
          · skip
            have hsf : st < fuel := by simp at h4; omega
            obtain ⟨lf, hlf⟩ : ∃ lf, fuel - st = lf + 1 := ⟨fuel - st - 1, by omega⟩
            rw [hlf] at hrn
            simp only [ranM, hre] at hrn
            have hk19 := hki.2.2.2.2.2.2.2.1
            clear hki
            have hnx : nextM ts t = doesM ts t (placeM t) kk := by unfold nextM; rw [hkk]
            have hys := does_sh hbs hsh hok kk
            have hyz := does_sz hbz hok hsz kk
            rw [← hnx] at hys hyz
            obtain rfl | rfl | rfl | rfl | rfl | rfl | rfl : kk = 1 ∨ kk = 2 ∨ kk = 3 ∨ kk = 4 ∨ kk = 5 ∨ kk = 6 ∨ kk = 7 := by omega
            all_goals
              refine Tri.skip ?_
              refine yR ?_
              refine yM ?_
              refine yM ?_
              refine yY ?_
              refine yF ?_
              refine s_val (v_ixo SS) ?_
              refine yL ?_
              refine yA ?_
              refine e_seq ?_
              refine yR ?_
              refine yM ?_
              refine yL ?_
              first | refine s_val (v_callO (fun _ => does1_c hsh hok hN hkk)) ?_ | refine s_val (v_callO (fun _ => does2_c hsh hok hN hkk)) ?_ | refine s_val (v_callO (fun _ => does3_c a b hts hok hN hkk)) ?_ | refine s_val (v_callO (fun _ => does4_c hsh hok hN hkk)) ?_ | refine s_val (v_callO (fun _ => does5_c hsh hok hN hkk)) ?_ | refine s_val (v_callO (fun _ => does6_c hsh hok hN hkk)) ?_ | refine s_val (v_callO (fun _ => does7_c hsh hok hN hkk)) ?_
              refine yS ?_
              refine e_seq ?_
              rw [← hnx]
              refine yR ?_
              refine yT ?_
              refine s_box SS 91 ?_
              refine yL ?_
              refine s_call (grT_c _ (nextM ts t) (Nat.le_refl _) (by omega) 1 0 (by omega) (by omega)) ?_
              refine e_seqN [91] ?_
              repeat refine Tri.seq ?_
              refine Tri.cond rfl (fun h5 => ?_) (fun h5 => ?_)
              · skip
                have hfin : ranM ts fuel 0 t0 = (endZ, 12) := by rw [hrn, if_pos h5]
                refine yR ?_
                refine yT ?_
                refine yS ?_
                refine yB ?_
                refine e_seq ?_
                repeat refine Tri.seq ?_
                exact Tri.ret ⟨.inr rfl, ret2 rfl resV_cell ((by rw [hfin]; exact ToPu.imp (by unfold endZ noneM; repeat constructor))) resV_tmp ((by rw [hfin]; exact VImp.refl _))⟩
              · skip
                have hnext : ranM ts fuel 0 t0 = ranM ts (fuel - (st + 1)) (st + 1) (nextM ts t) := by rw [hrn, if_neg (by rw [h5]; decide), show fuel - (st + 1) = lf by omega]
                have hls := long_size (mn := 3000) (md := 200) (t := nextM ts t) (d := 1) (c := 0) (by omega) h5
                have hszy : tsize (nextM ts t) ≤ 3000 := by omega
                have hshy := hys
                refine Tri.skip ?_
                refine yR ?_
                refine yI ?_
                refine yM ?_
                refine e_seq ?_
                refine ⟨⟨(st + 1, nextM ts t), by show st + 1 ≤ fuel; omega, hnext, hshy, hszy⟩, by show fuel - (st + 1) < fuel - st; omega, le_of ?_ ?_⟩
                · exact zE
                · exact zH
  · exfalso
    have := i.2.1
    simp at h0
    omega
end Go.Proofs.YtkcgkignhpepkaaDoor

/- step.Run. -/
namespace Go.Proofs.YtkcgkignhpepkaaDoor
open Go Hs
variable {G : List (Nat × TypeId × Pu)}

theorem firstE_zero {α : Type} {f : α → Int} : ∀ {l : List α}, firstE f l = 0 → ∀ x ∈ l, f x = 0
  | [], _, x, h => by cases h
  | a :: l, h, x, hx => by
    simp only [firstE] at h
    split at h
    · rename_i h0
      rcases List.mem_cons.1 hx with rfl | hx
      · exact h0
      · exact firstE_zero h x hx
    · contradiction
theorem stepCheck_ok {ts : List KT} {t : Tm} (h : stepCheckM ts t = 0) : ts.length ≤ 40 ∧ (∀ x ∈ ts, checkM x.2 0 0 = 0) ∧ (ts.map (·.1)).Nodup ∧ checkM t 0 0 = 0 := by
  unfold stepCheckM at h
  split at h
  · cases h
  · rename_i h1
    obtain ⟨h2, h3⟩ := orE_zero h
    split at h3
    · cases h3
    · rename_i h4
      exact ⟨by simp at h1; omega, firstE_zero h2, by simpa [dupM] using h4, h3⟩
theorem ranE_inv {ts : List KT} {steps : Nat} {t : Tm} {e : EndM} (hs : shT t) (h : ranE ts steps t = some e) : shT e.term ∧ tsize e.term ≤ tsize t := by
  have hn1 : tsize noneM = 1 := by simp [noneM, tsize, tsizeL, csizeL]
  have hp := tsize_pos t
  unfold ranE at h
  split at h
  · simp at h; subst h; exact ⟨hs, Nat.le_refl _⟩
  · split at h
    · simp at h; subst h
      simp only
      cases hk : (walkM t (placeM t)).kids[0]? with
      | none => exact ⟨sh_none, by simp only [Option.getD]; omega⟩
      | some x =>
        have h1 := kid_size hk
        have h2 := walk_size (t := t) (p := placeM t)
        exact ⟨sh_kid (sh_walk hs) hk, by simp only [Option.getD]; omega⟩
    · split at h
      · simp at h; subst h; exact ⟨sh_none, by simp only; omega⟩
      · cases h
theorem ran_inv {ts : List KT} (hbs : ∀ x ∈ ts, shT x.2) : ∀ (left steps : Nat) (t : Tm), shT t → tsize t ≤ 3000 → shT (ranM ts left steps t).1.term ∧ tsize (ranM ts left steps t).1.term ≤ 3000
  | 0, steps, t, hs, hz => by
    have hn1 : tsize noneM = 1 := by simp [noneM, tsize, tsizeL, csizeL]
    simp only [ranM]
    split
    · rename_i e he
      have := ranE_inv hs he
      exact ⟨this.1, Nat.le_trans this.2 hz⟩
    · exact ⟨sh_none, by simp only; omega⟩
  | left + 1, steps, t, hs, hz => by
    have hn1 : tsize noneM = 1 := by simp [noneM, tsize, tsizeL, csizeL]
    simp only [ranM]
    split
    · rename_i e he
      have := ranE_inv hs he
      exact ⟨this.1, Nat.le_trans this.2 hz⟩
    · split
      · exact ⟨sh_none, by simp only [endZ]; omega⟩
      · rename_i hg
        have hls := long_size (mn := 3000) (md := 200) (t := nextM ts t) (d := 1) (c := 0) (by omega) (by simpa using hg)
        exact ran_inv hbs left (steps + 1) (nextM ts t) (does_sh hbs hs (place_ok hs) _) (by omega)

def runM (ts : List KT) (t : Tm) (fuel : Int) : EndM × Int :=
  if stepCheckM ts t = 0 then
    if fuel < 0 ∨ 2000 < fuel then (endZ, 3)
    else if (ranM ts fuel.toNat 0 t).2 = 0 then
      if (ranM ts fuel.toNat 0 t).1.kind ≠ 0 ∧ (ranM ts fuel.toNat 0 t).1.kind ≠ 9 then ((ranM ts fuel.toNat 0 t).1, 0)
      else if checkM (ranM ts fuel.toNat 0 t).1.term 60 8 = 0 then ((ranM ts fuel.toNat 0 t).1, 0) else (endZ, 11)
    else (endZ, (ranM ts fuel.toNat 0 t).2)
  else (endZ, stepCheckM ts t)

set_option maxHeartbeats 1000000 in
theorem run_c (a b : Pu) (ts : List KT) (t : Tm) (fuel : Int) (hts : ∀ x ∈ ts, tsize x.2 < 2^40) (hN : tsize t < 2^40) : FCall Tryd.prog G 22 [.pu (wdP a b ts), .pu (tmc 0 t), iv .i64 fuel] (ranV (runM ts t fuel)) := by
  refine FCall.of_tri tbl 58 Tryd.func22 rfl rfl rfl fun w0 M ρ0 D0 => ?_
  refine yR ?_
  refine s_box SS 3 ?_
  refine s_box SS 4 ?_
  refine s_alloc SS 6 ?_
  refine yB ?_
  refine e_seqN [3, 4, 6] ?_
  refine yR ?_
  refine yL ?_
  refine yL ?_
  refine s_val (v_callD (fun _ => stepCheck_c a b ts t hts hN)) ?_
  refine yA ?_
  refine e_seq ?_
  refine yR ?_
  refine yM ?_
  refine yI ?_
  refine e_seq ?_
  repeat refine Tri.seq ?_
  refine Tri.cond rfl (fun h0 => ?_) (fun h0 => ?_)
  · skip
    have h0' : ¬ stepCheckM ts t = 0 := by simpa using h0
    have hfin : runM ts t fuel = (endZ, stepCheckM ts t) := by simp only [runM, if_neg h0']
    refine yR ?_
    refine yT ?_
    refine yM ?_
    refine yS ?_
    refine yA ?_
    refine e_seq ?_
    repeat refine Tri.seq ?_
    exact Tri.ret ⟨.inr rfl, ret2 rfl resV_cell ((by rw [hfin]; exact ToPu.imp (by unfold endZ noneM; repeat constructor))) resV_tmp ((by rw [hfin]; exact VImp.refl _))⟩
  · skip
    have h0' : stepCheckM ts t = 0 := by simpa using h0
    obtain ⟨k1, k2, k3, k4⟩ := stepCheck_ok h0'
    obtain ⟨k5, k6⟩ := check_sh k4
    refine Tri.skip ?_
    refine yR ?_
    refine yM ?_
    refine yI ?_
    refine yM ?_
    refine xM ?_
    refine xI ?_
    refine yO ?_
    refine e_seq ?_
    repeat refine Tri.seq ?_
    refine Tri.cond rfl (fun h1 => ?_) (fun h1 => ?_)
    · skip
      have h1' : fuel < 0 ∨ 2000 < fuel := by simpa using h1
      have hfin : runM ts t fuel = (endZ, 3) := by simp only [runM, if_pos h0', if_pos h1']
      refine yR ?_
      refine yT ?_
      refine yS ?_
      refine yB ?_
      refine e_seq ?_
      repeat refine Tri.seq ?_
      exact Tri.ret ⟨.inr rfl, ret2 rfl resV_cell ((by rw [hfin]; exact ToPu.imp (by unfold endZ noneM; repeat constructor))) resV_tmp ((by rw [hfin]; exact VImp.refl _))⟩
    · skip
      have h1' : ¬ (fuel < 0 ∨ 2000 < fuel) := by simp at h1; omega
      obtain ⟨fl, hfl⟩ : ∃ fl : Nat, fuel = fl := ⟨fuel.toNat, by omega⟩
      subst hfl
      have hran := ran_c (G := G) a b ts k3 (by omega) (fun x hx => (check_sh (k2 x hx)).1) (fun x hx => (check_sh (k2 x hx)).2) t k5 (by omega) fl (by omega)
      have hinv := ran_inv (ts := ts) (fun x hx => (check_sh (k2 x hx)).1) fl 0 t k5 (by omega)
      have hrun : runM ts t fl = if (ranM ts fl 0 t).2 = 0 then (if (ranM ts fl 0 t).1.kind ≠ 0 ∧ (ranM ts fl 0 t).1.kind ≠ 9 then ((ranM ts fl 0 t).1, 0) else if checkM (ranM ts fl 0 t).1.term 60 8 = 0 then ((ranM ts fl 0 t).1, 0) else (endZ, 11)) else (endZ, (ranM ts fl 0 t).2) := by simp only [runM, if_pos h0', if_neg h1', Int.toNat_natCast]
      generalize ranM ts fl 0 t = res at hran hinv hrun
      obtain ⟨⟨ek, es, et, er, en⟩, err⟩ := res
      simp only at hinv hrun
      refine Tri.skip ?_
      refine yR ?_
      refine yL ?_
      refine yL ?_
      refine yM ?_
      refine s_val (v_callD (fun _ => hran)) ?_
      refine yM ?_
      refine yX ?_
      refine yX ?_
      refine s_alloc SS 9 ?_
      refine yS ?_
      refine yA ?_
      refine e_seqN [9] ?_
      repeat refine Tri.seq ?_
      refine Tri.block ?_
      refine yR ?_
      refine yM ?_
      refine yI ?_
      refine yA ?_
      refine e_seq ?_
      repeat refine Tri.seq ?_
      refine Tri.cond rfl (fun h2 => ?_) (fun h2 => ?_)
      · skip
        have h2' : ¬ err = 0 := by simpa using h2
        rw [if_neg h2'] at hrun
        refine yR ?_
        refine yT ?_
        refine yM ?_
        refine yS ?_
        refine yA ?_
        refine e_seq ?_
        repeat refine Tri.seq ?_
        exact Tri.ret ⟨.inr rfl, ret2 rfl resV_cell ((by rw [hrun]; exact ToPu.imp (by unfold endZ noneM; repeat constructor))) resV_tmp ((by rw [hrun]; exact VImp.refl _))⟩
      · skip
        have h2' : err = 0 := by simpa using h2
        rw [if_pos h2'] at hrun
        refine yR ?_
        refine yF ?_
        refine yL ?_
        refine yI ?_
        refine yM ?_
        refine xF ?_
        refine xL ?_
        refine xI ?_
        refine yN ?_
        refine yA ?_
        refine e_seq ?_
        repeat refine Tri.seq ?_
        refine Tri.cond rfl (fun h3 => ?_) (fun h3 => ?_)
        · skip
          have h3' : ek ≠ 0 ∧ ek ≠ 9 := by simpa using h3
          rw [if_pos h3'] at hrun
          refine yR ?_
          refine yL ?_
          refine yS ?_
          refine yB ?_
          refine e_seq ?_
          repeat refine Tri.seq ?_
          exact Tri.ret ⟨.inr rfl, ret2 rfl resV_cell ((by rw [hrun]; exact VImp.refl _)) resV_tmp ((by rw [hrun]; exact VImp.refl _))⟩
        · skip
          have h3' : ¬ (ek ≠ 0 ∧ ek ≠ 9) := by simpa using h3
          rw [if_neg h3'] at hrun
          refine yR ?_
          refine yF ?_
          refine yL ?_
          refine s_val (v_callD (fun _ => right_c et (by omega))) ?_
          refine yQ ?_
          refine yA ?_
          refine e_seq ?_
          repeat refine Tri.seq ?_
          refine Tri.cond rfl (fun h4 => ?_) (fun h4 => ?_)
          · skip
            have h4' : ¬ checkM et 60 8 = 0 := by simpa using h4
            rw [if_neg h4'] at hrun
            refine yR ?_
            refine yT ?_
            refine yS ?_
            refine yB ?_
            refine e_seq ?_
            repeat refine Tri.seq ?_
            exact Tri.ret ⟨.inr rfl, ret2 rfl resV_cell ((by rw [hrun]; exact ToPu.imp (by unfold endZ noneM; repeat constructor))) resV_tmp ((by rw [hrun]; exact VImp.refl _))⟩
          · skip
            have h4' : checkM et 60 8 = 0 := by simpa using h4
            rw [if_pos h4'] at hrun
            refine Tri.skip ?_
            refine yR ?_
            refine yF ?_
            refine yL ?_
            refine s_val (v_callD (fun _ => (own_c et (by omega)).at (lowAt _))) ?_
            refine yF ?_
            refine yS ?_
            refine e_seq ?_
            refine yR ?_
            refine yL ?_
            refine yS ?_
            refine yB ?_
            refine e_seq ?_
            repeat refine Tri.seq ?_
            exact Tri.ret ⟨.inr rfl, ret2 rfl resV_cell ((by rw [hrun]; exact VImp.refl _)) resV_tmp ((by rw [hrun]; exact VImp.refl _))⟩
end Go.Proofs.YtkcgkignhpepkaaDoor

/- step.Next. -/
namespace Go.Proofs.YtkcgkignhpepkaaDoor
open Go Hs
variable {G : List (Nat × TypeId × Pu)}

def stepNextM (ts : List KT) (t : Tm) : Int × List Nat × Int :=
  if stepCheckM ts t = 0 then (if valM t then (0, [], 0) else (kindM ts t (placeM t), placeM t, 0)) else (0, [], stepCheckM ts t)
abbrev nextV (x : Int × List Nat × Int) : PV := .tup [iv .i64 x.1, .pu (.sl 0 3 (pathL x.2.1)), iv .i64 x.2.2]

theorem stepNext_c (a b : Pu) (ts : List KT) (t : Tm) (hts : ∀ x ∈ ts, tsize x.2 < 2^40) (hN : tsize t < 2^40) : FCall Tryd.prog G 32 [.pu (wdP a b ts), .pu (tmc 0 t)] (nextV (stepNextM ts t)) := by
  refine FCall.of_tri tbl 25 Tryd.func32 rfl rfl rfl fun w0 M ρ0 D0 => ?_
  refine Tri.fact (i := 0) rfl (fun D w x h => wd_wf h) (fun hwd => ?_)
  refine yR ?_
  refine s_box SS 2 ?_
  refine s_box SS 3 ?_
  refine yB ?_
  refine yB ?_
  refine yB ?_
  refine e_seqN [2, 3] ?_
  refine yR ?_
  refine yL ?_
  refine yL ?_
  refine s_val (v_callD (fun _ => stepCheck_c a b ts t hts hN)) ?_
  refine yA ?_
  refine e_seq ?_
  refine yR ?_
  refine yM ?_
  refine yI ?_
  refine e_seq ?_
  repeat refine Tri.seq ?_
  refine Tri.cond rfl (fun h0 => ?_) (fun h0 => ?_)
  · skip
    have h0' : ¬ stepCheckM ts t = 0 := by simpa using h0
    have hfin : stepNextM ts t = (0, [], stepCheckM ts t) := by simp only [stepNextM, if_neg h0']
    refine yR ?_
    refine yM ?_
    refine yB ?_
    refine yB ?_
    refine yA ?_
    refine e_seq ?_
    repeat refine Tri.seq ?_
    exact Tri.ret ⟨.inr rfl, ret3 rfl resV_tmp ((by rw [hfin]; exact VImp.refl _)) resV_tmp ((by rw [hfin]; exact ToPu.imp (by repeat constructor))) resV_tmp ((by rw [hfin]; exact VImp.refl _))⟩
  · skip
    have h0' : stepCheckM ts t = 0 := by simpa using h0
    obtain ⟨k1, k2, k3, k4⟩ := stepCheck_ok h0'
    obtain ⟨k5, k6⟩ := check_sh k4
    refine Tri.skip ?_
    refine yR ?_
    refine yL ?_
    refine s_val (v_callD (fun _ => value_c _ t (Nat.le_refl _) (by omega))) ?_
    refine e_seq ?_
    repeat refine Tri.seq ?_
    refine Tri.cond rfl (fun h1 => ?_) (fun h1 => ?_)
    · skip
      have hfin : stepNextM ts t = (0, [], 0) := by simp only [stepNextM, if_pos h0', h1, if_true]
      refine yR ?_
      refine yB ?_
      refine yB ?_
      refine yB ?_
      refine e_seq ?_
      repeat refine Tri.seq ?_
      exact Tri.ret ⟨.inr rfl, ret3 rfl resV_tmp ((by rw [hfin]; exact VImp.refl _)) resV_tmp ((by rw [hfin]; exact ToPu.imp (by repeat constructor))) resV_tmp ((by rw [hfin]; exact VImp.refl _))⟩
    · skip
      have hfin : stepNextM ts t = (kindM ts t (placeM t), placeM t, 0) := by simp only [stepNextM, if_pos h0', h1, Bool.false_eq_true, if_false]
      have hok := place_ok k5
      have hN' : tsize t < 2^28 := by omega
      have hwsh := sh_walk (p := placeM t) k5
      have hkc := kind_c (G := G) a b ts hwd t (placeM t) hok hN' (by generalize walkM t (placeM t) = w at hwsh; obtain ⟨k, n, r, ks, cs⟩ := w; exact hwsh.1) (by generalize walkM t (placeM t) = w at hwsh; obtain ⟨k, n, r, ks, cs⟩ := w; exact hwsh.2.1)
      refine Tri.skip ?_
      refine yR ?_
      refine yL ?_
      refine s_val (v_callD (fun _ => found_c t k5 (by omega))) ?_
      refine s_alloc SS 8 ?_
      refine yS ?_
      refine e_seqN [8] ?_
      refine yR ?_
      refine yL ?_
      refine s_call (opened_c a b ts k3 (by omega)) ?_
      refine yL ?_
      refine s_val (v_callO (fun _ => hkc)) ?_
      refine yF ?_
      refine yK ?_
      refine yA ?_
      refine yA ?_
      refine yB ?_
      refine e_drawN [822, 820, 823, 831, 832, 833, 834, 835, 836] ?_
      repeat refine Tri.seq ?_
      exact Tri.ret ⟨.inr rfl, ret3 rfl resV_tmp ((by rw [hfin]; exact VImp.refl _)) resV_tmp ((by rw [hfin]; exact VImp.refl _)) resV_tmp ((by rw [hfin]; exact VImp.refl _))⟩
end Go.Proofs.YtkcgkignhpepkaaDoor

