/- Part 6 of the proof: lemmas on walks and the walks of the functions, in their order. -/
import Derived.Test.YtkcgkignhpepkaaGreatDoorR5
set_option linter.unusedSimpArgs false
set_option linter.unusedVariables false
/- Right terms: what is kept by steps. -/
namespace Go.Proofs.YtkcgkignhpepkaaGreatDoor
open Go Hs
variable {G : List (Nat × TypeId × Pu)}
mutual
def gdT (d : Int) : Tm → Prop
 | .mk k n _ ks cs => (1 ≤ k ∧ k ≤ 12 ∧ k ≠ 7) ∧ kidsM k ks.length = true ∧ (k = 11 → 0 ≤ n ∧ n ≤ 7) ∧ (k = 1 → 0 ≤ n ∧ n < d) ∧ gdK d k 0 ks ∧ gdC d cs
def gdK (d k : Int) (i : Nat) : List Tm → Prop
 | [] => True
 | t :: ts => gdT (d + moreM k i) t ∧ gdK d k (i + 1) ts
def gdC (d : Int) : List Cs → Prop
 | [] => True
 | c :: cs => gdS d c ∧ gdC d cs
def gdS (d : Int) : Cs → Prop
 | .mk q t => perr q = 0 ∧ gdT (d + bindsM q) t
end
mutual
theorem gd_sh : ∀ {t : Tm} {d : Int}, gdT d t → shT t
 | .mk k n r ks cs, d, h => ⟨h.2.1, h.2.2.1, gdK_sh h.2.2.2.2.1, gdC_sh h.2.2.2.2.2⟩
theorem gdK_sh : ∀ {ks : List Tm} {d k : Int} {i : Nat}, gdK d k i ks → shL ks
 | [], _, _, _, _ => trivial
 | t :: ts, _, _, _, h => ⟨gd_sh h.1, gdK_sh h.2⟩
theorem gdC_sh : ∀ {cs : List Cs} {d : Int}, gdC d cs → shC cs
 | [], _, _ => trivial
 | .mk q t :: cs, _, h => ⟨gd_sh (t := t) h.1.2, gdC_sh h.2⟩
end
mutual
theorem gd_mono : ∀ {t : Tm} {d e : Int}, d ≤ e → gdT d t → gdT e t
 | .mk k n r ks cs, d, e, hd, h => ⟨h.1, h.2.1, h.2.2.1, fun hk => by have := h.2.2.2.1 hk; omega, gdK_mono hd h.2.2.2.2.1, gdC_mono hd h.2.2.2.2.2⟩
theorem gdK_mono : ∀ {ks : List Tm} {d e k : Int} {i : Nat}, d ≤ e → gdK d k i ks → gdK e k i ks
 | [], _, _, _, _, _, _ => trivial
 | t :: ts, d, e, k, i, hd, h => ⟨gd_mono (by omega) h.1, gdK_mono hd h.2⟩
theorem gdC_mono : ∀ {cs : List Cs} {d e : Int}, d ≤ e → gdC d cs → gdC e cs
 | [], _, _, _, _ => trivial
 | .mk q t :: cs, d, e, hd, h => ⟨⟨h.1.1, gd_mono (t := t) (d := d + bindsM q) (e := e + bindsM q) (by omega) h.1.2⟩, gdC_mono hd h.2⟩
end
theorem termErr_gd {b k n : Int} {r : List Int} {nk nc : Nat} (h : termErr 0 0 b k n r nk nc = 0) (hn : -2^63 ≤ n ∧ n < 2^63) (hb : 0 ≤ b ∧ b < 2^62) : (1 ≤ k ∧ k ≤ 12 ∧ k ≠ 7) ∧ kidsM k nk = true ∧ (k = 11 → 0 ≤ n ∧ n ≤ 7) ∧ (k = 1 → 0 ≤ n ∧ n < b) := by
 unfold termErr at h
 by_cases h0 : offM k 1 12 = true
 ·rw [if_pos h0] at h; omega
 rw [if_neg h0] at h
 have hk := notOff (by simpa using h0)
 by_cases h1 : clashM (hasNumM k) (hasRefM k) (hasCasesM k) n r nc = true
 ·rw [if_pos h1] at h; omega
 rw [if_neg h1] at h
 by_cases h2 : (!kidsM k nk || decide ((nc : Int) > 8)) = true
 ·rw [if_pos h2] at h; omega
 rw [if_neg h2] at h
 by_cases h3 : (k == 10 && offM n 1 5) = true
 ·rw [if_pos h3] at h; omega
 rw [if_neg h3] at h
 by_cases h4 : (k == 1 && !knownM 0 n b) = true
 ·rw [if_pos h4] at h; omega
 rw [if_neg h4] at h
 by_cases h5 : (k == 7 && (decide (n < 0) || decide (n ≥ 0))) = true
 ·rw [if_pos h5] at h; omega
 rw [if_neg h5] at h
 by_cases h6 : ((k == 2 || k == 8 || k == 11) && offM n 0 (if k == 8 || k == 11 then 7 else 1073741824)) = true
 ·rw [if_pos h6] at h; omega
 simp only [Bool.or_eq_true, not_or, Bool.not_eq_true, Bool.not_eq_false'] at h2
 refine ⟨⟨hk.1, hk.2, fun e => ?_⟩, by simpa using h2.1, fun e => ?_, fun e => ?_⟩
 ·subst e; simp at h5; omega
 ·subst e; simp [offM] at h6; omega
 ·subst e
  have h7 : knownM 0 n b = true := by simpa using h4
  simp only [knownM, Bool.and_eq_true, decide_eq_true_eq, Bool.or_eq_true] at h7
  refine ⟨by omega, ?_⟩
  rcases h7.2 with h | h
  ·exact h
  ·rw [wrap64 (by omega) (by omega)] at h; omega
mutual
theorem aerr_gd : ∀ {t : Tm} {b : Int}, aerr 0 0 b t = 0 → rgT t → 0 ≤ b → b + 2 * tsize t ≤ 2^60 → gdT b t
 | .mk k n r ks cs, b, h, hr, hb, hz => by
  simp only [aerr] at h
  obtain ⟨h1, h⟩ := orE_zero h
  obtain ⟨h0, h⟩ := orE_zero h
  obtain ⟨h2, h3⟩ := orE_zero h
  have hpe := firstE_zero h0
  simp only [tsize] at hz
  obtain ⟨g1, g2, g3, g4⟩ := termErr_gd h1 hr.1 (by omega)
  exact ⟨g1, g2, g3, g4, aerrK_gd h2 hr.2.1 hb (by omega), aerrC_gd h3 hpe hr.2.2 hb (by omega)⟩
theorem aerrK_gd : ∀ {ks : List Tm} {b k : Int} {i : Nat}, aerrK 0 0 b k i ks = 0 → rgK ks → 0 ≤ b → b + 2 + 2 * tsizeL ks ≤ 2^60 → gdK b k i ks
 | [], _, _, _, _, _, _, _ => trivial
 | t :: ts, b, k, i, h, hr, hb, hz => by
  simp only [aerrK] at h
  obtain ⟨h1, h2⟩ := orE_zero h
  simp only [tsizeL] at hz
  have := more_b k i
  exact ⟨aerr_gd h1 hr.1 (by omega) (by omega), aerrK_gd h2 hr.2 hb (by omega)⟩
theorem aerrC_gd : ∀ {cs : List Cs} {b : Int}, aerrC 0 0 b cs = 0 → (∀ c ∈ cs, perr (csP c) = 0) → rgC cs → 0 ≤ b → b + 2 + 2 * csizeL cs ≤ 2^60 → gdC b cs
 | [], _, _, _, _, _, _ => trivial
 | .mk q t :: cs, b, h, hp, hr, hb, hz => by
  simp only [aerrC, aerrCs] at h
  obtain ⟨h1, h2⟩ := orE_zero h
  simp only [csizeL, csize] at hz
  have := binds_bound q
  exact ⟨⟨hp _ (List.mem_cons_self ..), aerr_gd (t := t) h1 hr.1 (by omega) (by omega)⟩, aerrC_gd h2 (fun c hc => hp c (List.mem_cons_of_mem _ hc)) hr.2 hb (by omega)⟩
end
theorem check_gd {t : Tm} (h : checkM t 0 0 = 0) (hr : rgT t) : gdT 0 t := by
 have hz := (check_sh h).2
 unfold checkM at h
 split at h
 ·cases h
 ·exact aerr_gd h hr (by omega) (by omega)
theorem gdK_mem : ∀ {ks : List Tm} {d k : Int} {i : Nat}, gdK d k i ks → ∀ {j : Nat} {x : Tm}, ks[j]? = some x → gdT (d + moreM k ((i + j : Nat) : Int)) x
 | t :: ts, d, k, i, h, 0, x, hx => by simp at hx; subst hx; exact h.1
 | t :: ts, d, k, i, h, j + 1, x, hx => by
  have := gdK_mem h.2 (j := j) (by simpa using hx)
  rwa [show i + 1 + j = i + (j + 1) by omega] at this
theorem gd_kid {t : Tm} {d : Int} (h : gdT d t) {j : Nat} {x : Tm} (hx : t.kids[j]? = some x) : gdT (d + moreM t.kind (j : Nat)) x := by
 obtain ⟨k, n, r, ks, cs⟩ := t
 have := gdK_mem h.2.2.2.2.1 hx
 rwa [Nat.zero_add] at this
theorem gdC_mem : ∀ {cs : List Cs} {d : Int}, gdC d cs → ∀ c ∈ cs, perr (csP c) = 0 ∧ gdT (d + bindsM (csP c)) (csT c)
 | .mk q t :: cs, d, h, c, hc => by
  rcases List.mem_cons.1 hc with rfl | hc
  ·exact h.1
  ·exact gdC_mem h.2 c hc
mutual
theorem put_gd (vs : List Tm) (hvs : ∀ v ∈ vs, gdT 0 v) : ∀ (t : Tm) (d : Int), 0 ≤ d → d + vs.length + 2 * tsize t ≤ 2^60 → gdT (d + vs.length) t → gdT d (putM vs d t)
 | .mk k n r ks cs, d, hd, hz, h => by
  simp only [tsize] at hz
  obtain ⟨h1, h2, h3, h4, h5, h6⟩ := h
  have hK := putK_gd vs hvs ks d k 0 hd (by omega) h5
  have hC := putC_gd vs hvs cs d hd (by omega) h6
  simp only [putM]
  split
  ·rename_i hc
   have hn := h4 hc.1
   have hw : IntKind.wrap .i64 (n - d) = n - d := wrap64 (by omega) (by omega)
   split
   ·exact gd_mono hd (hvs _ (List.getElem_mem _))
   ·rename_i hlt; omega
  ·rename_i hc
   refine ⟨h1, by rw [putK_len]; exact h2, h3, fun hk => ?_, hK, hC⟩
   have hn := h4 hk
   refine ⟨hn.1, ?_⟩
   by_cases hv : 0 < vs.length
   ·have : ¬ 0 ≤ IntKind.wrap .i64 (n - d) := fun h0 => hc ⟨hk, h0, hv⟩
    rw [wrap64 (by omega) (by omega)] at this
    omega
   ·omega
theorem putK_gd (vs : List Tm) (hvs : ∀ v ∈ vs, gdT 0 v) : ∀ (ks : List Tm) (d k : Int) (i : Nat), 0 ≤ d → d + vs.length + 2 + 2 * tsizeL ks ≤ 2^60 → gdK (d + vs.length) k i ks → gdK d k i (putK vs d k i ks)
 | [], _, _, _, _, _, _ => trivial
 | t :: ts, d, k, i, hd, hz, h => by
  simp only [tsizeL] at hz
  have hm := more_b k i
  simp only [putK]
  refine ⟨put_gd vs hvs t (d + moreM k i) (by omega) (by omega) ?_, putK_gd vs hvs ts d k (i + 1) hd (by omega) h.2⟩
  rw [show d + moreM k i + (vs.length : Int) = d + vs.length + moreM k i by omega];exact h.1
theorem putC_gd (vs : List Tm) (hvs : ∀ v ∈ vs, gdT 0 v) : ∀ (cs : List Cs) (d : Int), 0 ≤ d → d + vs.length + 2 + 2 * csizeL cs ≤ 2^60 → gdC (d + vs.length) cs → gdC d (putC vs d cs)
 | [], _, _, _, _ => trivial
 | .mk q t :: cs, d, hd, hz, h => by
  simp only [csizeL, csize] at hz
  have hm := binds_bound q
  simp only [putC, putS]
  refine ⟨⟨h.1.1, ?_⟩, putC_gd vs hvs cs d hd (by omega) h.2⟩
  have h1 : gdT (d + vs.length + bindsM q) t := h.1.2
  show gdT (d + bindsM q) (putM vs (d + bindsM q) t)
  exact put_gd vs hvs t (d + bindsM q) (by omega) (by omega) (by rw [show d + bindsM q + (vs.length : Int) = d + vs.length + bindsM q by omega]; exact h1)
end
theorem more8 (i : Int) : moreM 8 i = 0 := by unfold moreM; simp
mutual
theorem fits_gd : ∀ (p : Pat) {v : Tm} {d : Int}, gdT d v → ∀ x ∈ (fitsM p v).1, gdT d x
 | .mk k n r ks, v, d, h, x, hx => by
  simp only [fitsM] at hx
  split at hx
  ·simp at hx; subst hx; exact h
  ·split at hx
   ·simp at hx
   ·split at hx
    ·split at hx
     ·simp at hx
     ·rename_i hc
      have hk8 : v.kind = 8 := by simp at hc; exact hc.1.1.1
      refine fitsL_gd ks (fun j y hy => ?_) x hx
      have := gd_kid h hy
      rwa [hk8, more8, Int.add_zero] at this
    ·simp at hx
theorem fitsL_gd : ∀ (ps : List Pat) {vs : List Tm} {d : Int}, (∀ (j : Nat) (y : Tm), vs[j]? = some y → gdT d y) → ∀ x ∈ (fitsL ps vs).1, gdT d x
 | [], vs, d, _, x, hx => by simp [fitsL] at hx
 | _ :: _, [], d, _, x, hx => by simp [fitsL] at hx
 | p :: ps, v :: vs, d, h, x, hx => by
  simp only [fitsL, fitAdd] at hx
  split at hx
  ·simp only [List.mem_append] at hx
   rcases hx with hx | hx
   ·exact fits_gd p (h 0 v rfl) x hx
   ·exact fitsL_gd ps (fun j y hy => h (j + 1) y (by simpa using hy)) x hx
  ·simp at hx
end
mutual
theorem fits_binds : ∀ (p : Pat) (v : Tm), (fitsM p v).2 = true → perr p = 0 → ((fitsM p v).1.length : Int) = bindsM p
 | .mk k n r ks, v, h, he => by
  simp only [perr] at he
  have hpe : patErr k n r ks.length = 0 := by split at he <;> assumption
  rw [if_pos hpe] at he
  simp only [fitsM] at h ⊢
  simp only [bindsM]
  split
  ·simp
  ·rename_i h1
   rw [if_neg h1] at h
   split
   ·rename_i h2
    have : ks = [] := by
     unfold patErr at hpe
     subst h2
     by_cases g0 : offM 2 1 3 = true
     ·rw [if_pos g0] at hpe; omega
     rw [if_neg g0] at hpe
     by_cases g1 : clashM ((2 : Int) == 2 || (2 : Int) == 3) ((2 : Int) == 3) false n r 0 = true
     ·rw [if_pos g1] at hpe; omega
     rw [if_neg g1] at hpe
     by_cases g2 : decide ((ks.length : Int) > (if (2 : Int) == 3 then 4 else 0)) = true
     ·rw [if_pos g2] at hpe; omega
     simp at g2
     exact g2
    subst this
    simp [bindsL]
   ·rename_i h2
    rw [if_neg h2] at h
    split
    ·rename_i h3
     rw [if_pos h3] at h
     split
     ·rename_i h4; rw [if_pos h4] at h; cases h
     ·rename_i h4; rw [if_neg h4] at h
      exact fitsL_binds ks v.kids h he
    ·rename_i h3; rw [if_neg h3] at h; cases h
theorem fitsL_binds : ∀ (ps : List Pat) (vs : List Tm), (fitsL ps vs).2 = true → perrL ps = 0 → ((fitsL ps vs).1.length : Int) = bindsL ps
 | [], _, _, _ => by simp [fitsL, bindsL]
 | _ :: _, [], h, _ => by simp [fitsL] at h
 | p :: ps, v :: vs, h, he => by
  simp only [perrL] at he
  have hp : perr p = 0 := by split at he <;> assumption
  rw [if_pos hp] at he
  simp only [fitsL, fitAdd] at h ⊢
  split
  ·rename_i hb
   simp only [Bool.and_eq_true] at hb
   have h1 := fits_binds p v hb.1 hp
   have h2 := fitsL_binds ps vs hb.2 he
   simp only [List.length_append, bindsL]
   omega
  ·rename_i hb; rw [if_neg hb] at h; cases h
end
end Go.Proofs.YtkcgkignhpepkaaGreatDoor

/- The reference: the next step. -/
namespace Go.Proofs.YtkcgkignhpepkaaGreatDoor
open Go Hs
variable {G : List (Nat × TypeId × Pu)}
theorem place_zero : ∀ (N : Nat) (t : Tm), tsize t ≤ N → ∀ i (hi : i < (placeM t).length), (walkM t ((placeM t).take i)).kind = 12 → (placeM t)[i] = 0
 | 0, t, h, _, _, _ => by have := tsize_pos t; omega
 | N + 1, .mk k n r ks cs, h, i, hi, hk => by
  have hpw := place_work k n r ks cs
  cases hw : workI k ks with
  | none => rw [hw] at hpw; simp only at hpw; rw [hpw] at hi; simp at hi
  | some j =>
   obtain ⟨hj1, x, hx, hxv⟩ := workI_some hw
   rw [hw] at hpw
   simp only [hx] at hpw
   generalize placeM (.mk k n r ks cs) = p at hpw hi hk
   subst hpw
   have hxs := tsize_mem (List.mem_of_getElem? hx)
   simp only [tsize] at h
   cases i with
   | zero =>
    simp only [List.take_zero, walkM, Tm.kind] at hk
    subst hk
    have : manyM 12 ks.length = 1 := by simp [manyM]
    simp; omega
   | succ i =>
    simp only [List.take_succ_cons, walkM, Tm.kids, hx] at hk
    simp only [List.getElem_cons_succ]
    exact place_zero N x (by omega) i (by simpa using hi) hk
theorem match_none {v : Tm} : ∀ {cs : List Cs} {o : Nat}, fitI v cs o = none → matchM cs v = noneM
 | [], _, _ => rfl
 | .mk q b :: cs, o, h => by
  simp only [fitI] at h
  split at h
  ·cases h
  ·rename_i hf
   simp only [matchM, if_neg hf]
   exact match_none h
theorem match_gd {v : Tm} (hv : gdT 0 v) : ∀ {cs : List Cs} {o : Nat}, gdC 0 cs → tsize v + 2 * csizeL cs ≤ 2^50 → (fitI v cs o).isSome = true → gdT 0 (matchM cs v)
 | [], _, _, _, h => by simp [fitI] at h
 | .mk q b :: cs, o, hc, hz, h => by
  simp only [csizeL, csize] at hz
  simp only [fitI] at h
  simp only [matchM]
  split
  ·rename_i hf
   have hl := fits_binds q v hf hc.1.1
   have hb := fits_b q v
   refine put_gd _ (fits_gd q hv) b 0 (Int.le_refl _) (by omega) ?_;rw [hl];exact hc.1.2
  ·rename_i hf
   rw [if_neg hf] at h
   exact match_gd hv hc.2 (by omega) h
theorem match_kind {v : Tm} (hv : gdT 0 v) {cs : List Cs} (hc : gdC 0 cs) (hz : tsize v + 2 * csizeL cs ≤ 2^50) : ((matchM cs v).kind != 0) = (fitI v cs 0).isSome := by
 cases h : fitI v cs 0 with
 | none => rw [match_none h]; rfl
 | some x =>
  have := match_gd hv hc hz (by rw [h]; rfl)
  generalize matchM cs v = m at this
  obtain ⟨k, n, r, ks, cs'⟩ := m
  have h1 := this.1
  simp [Tm.kind]; omega
theorem bod_mem {s : List Int} : ∀ {ts : List KT}, (bodM s ts).isSome = true ↔ s ∈ ts.map (·.1)
 | [] => by simp [bodM]
 | x :: ts => by
  have ih := bod_mem (s := s) (ts := ts)
  simp only [bodM, List.map_cons, List.mem_cons]
  split
  ·rename_i h; simp [h]
  ·rename_i h; rw [ih]; simp [h]
theorem bod_fnd {s : List Int} {ts : List KT} : (bodM s ts).isSome = decide (0 ≤ fndM s ts) := by
 rw [Bool.eq_iff_iff, bod_mem, decide_eq_true_eq, fnd_mem]
theorem gd_walk : ∀ {p : List Nat} {t : Tm}, gdT 0 t → (∀ i (_ : i < p.length), moreM (walkM t (p.take i)).kind ((p[i]'(by assumption) : Nat) : Int) = 0) → gdT 0 (walkM t p)
 | [], t, h, _ => h
 | j :: p, t, h, hm => by
  simp only [walkM]
  split
  ·rename_i x hx
   have h0 := hm 0 (by simp)
   simp only [List.take_zero, walkM, List.getElem_cons_zero] at h0
   have hg := gd_kid h hx
   rw [h0, Int.add_zero] at hg
   refine gd_walk hg fun i hi => ?_
   have := hm (i + 1) (by simpa using hi)
   simpa only [List.take_succ_cons, walkM, hx, List.getElem_cons_succ] using this
  ·exact h
theorem place_more : ∀ (N : Nat) (t : Tm), tsize t ≤ N → ∀ i (hi : i < (placeM t).length), moreM (walkM t ((placeM t).take i)).kind (((placeM t)[i] : Nat) : Int) = 0
 | 0, t, h, _, _ => by have := tsize_pos t; omega
 | N + 1, .mk k n r ks cs, h, i, hi => by
  have hpw := place_work k n r ks cs
  cases hw : workI k ks with
  | none => rw [hw] at hpw; simp only at hpw; rw [hpw] at hi; simp at hi
  | some j =>
   obtain ⟨hj1, x, hx, hxv⟩ := workI_some hw
   rw [hw] at hpw
   simp only [hx] at hpw
   generalize placeM (.mk k n r ks cs) = p at hpw hi
   subst hpw
   have hxs := tsize_mem (List.mem_of_getElem? hx)
   simp only [tsize] at h
   cases i with
   | zero =>
    simp only [List.take_zero, walkM, Tm.kind, List.getElem_cons_zero]
    unfold manyM at hj1
    unfold moreM
    split at hj1
    ·rw [if_neg (by omega), if_neg (by omega)]
    ·split at hj1
     ·rw [if_neg (by omega), if_neg (by omega)]
     ·omega
   | succ i =>
    simp only [List.take_succ_cons, walkM, Tm.kids, hx, List.getElem_cons_succ]
    exact place_more N x (by omega) i (by simpa using hi)
theorem gd_place {t : Tm} (h : gdT 0 t) : gdT 0 (walkM t (placeM t)) := gd_walk h fun i hi => place_more _ t (Nat.le_refl _) i hi
abbrev rnextV (x : Int × List Nat) : PV := .tup [iv .i64 x.1, .pu (.sl 0 3 (pathL x.2))]
def rnextM (ts : List KT) (t : Tm) : Int × List Nat := if valM t then (0, []) else (kindM ts t (placeM t), placeM t)
set_option maxHeartbeats 4000000 in
theorem rnext_c (a b : Pu) (ts : List KT) (hts : ts.length < 2^40) (t : Tm) (hg : gdT 0 t) (hN : tsize t < 2^28) : FCall Tryz.prog G 17 [.pu (wdP a b ts), .pu (tmc 0 t)] (rnextV (rnextM ts t)) := by
 have hsh := gd_sh hg
 have hok := place_ok hsh
 have hpl := place_len t
 have hwl := way_len hok
 have hgw := gd_place hg
 have hwsz := walk_size (t := t) (p := placeM t)
 have hac := rat_c (G := G) t (placeM t) hok (by omega)
 have hhc := rhandler_c (G := G) t (placeM t) hok (by omega) (place_zero _ t (Nat.le_refl _))
 have hhl := hand_lt (wayM t (placeM t)) (walkM t (placeM t)).ref (placeM t).length
 have hkM : ∀ w, walkM t (placeM t) = w → kindM ts t (placeM t) = kindW ts (wayM t (placeM t)) (placeM t).length w := fun w e => by unfold kindM; rw [e]
 refine FCall.of_tri tbl 104 Tryz.func17 rfl rfl rfl fun w0 M ρ0 D0 => ?_
 refine yR ?_;refine s_box SS 2 ?_;refine s_box SS 3 ?_;refine yB ?_;refine yB ?_;refine e_seqN [2, 3] ?_;refine Y6 ?_;refine s_val (v_callD (fun _ => rvalue_c _ t (Nat.le_refl _) (by omega))) ?_;refine Y0 ?_;refine Tri.cond rfl (fun h0 => ?_) (fun h0 => ?_)
 ·skip
  have hfin : rnextM ts t = (0, []) := by simp [rnextM, h0]
  refine Y3 ?_;refine Y26 ?_;exact Tri.ret ⟨.inr rfl, ret2 rfl resV_tmp ((by rw [hfin]; exact VImp.refl _)) resV_tmp ((by rw [hfin]; exact ToPu.imp (by repeat constructor)))⟩
 ·skip
  have hfin : rnextM ts t = (kindM ts t (placeM t), placeM t) := by simp [rnextM, h0]
  have hpc := rplace_c (G := G) t hsh (by omega)
  generalize hp : placeM t = p at *
  generalize hw : walkM t p = w at *
  obtain ⟨k, n, r, ks, cs⟩ := w
  have hkM := hkM _ rfl
  simp only [Tm.ref] at hhc hhl
  obtain ⟨hg1, hg2, hg3, hg4, hg5, hg6⟩ := hgw
  simp only [tsize] at hwsz
  have hlen := length_tsizeL ks
  obtain ⟨x0, hx0⟩ : ∃ x, x = ks.getD 0 noneM := ⟨_, rfl⟩
  obtain ⟨x1, hx1⟩ : ∃ x, x = ks.getD 1 noneM := ⟨_, rfl⟩
  have g0 : 0 < ks.length → (tmsc 0 ks)[0]? = some (tmc 0 x0) := fun h => by rw [tms_get h, hx0]; simp [List.getD_eq_getElem?_getD, h]
  have g1 : 1 < ks.length → (tmsc 0 ks)[1]? = some (tmc 0 x1) := fun h => by rw [tms_get h, hx1]; simp [List.getD_eq_getElem?_getD, h]
  have e0 : ∀ h : 0 < ks.length, ks[0] = x0 := fun h => by rw [hx0]; simp [List.getD_eq_getElem?_getD, h]
  have e1 : ∀ h : 1 < ks.length, ks[1] = x1 := fun h => by rw [hx1]; simp [List.getD_eq_getElem?_getD, h]
  clear hx0 hx1
  obtain ⟨x0k, x0n, x0r, x0ks, x0cs⟩ := x0
  obtain ⟨x1k, x1n, x1r, x1ks, x1cs⟩ := x1
  refine Tri.skip ?_;refine Y6 ?_;refine s_val (v_callD (fun _ => hpc)) ?_;refine Y10 ?_;refine Y54 ?_;refine s_val (v_callD (fun _ => hac)) ?_;refine s_alloc SS 7 ?_;refine yS ?_;refine e_seqN [7] ?_;refine Y8 ?_;refine Tri.block ?_;refine Y41 ?_;refine s_gg zG (v_indexG SS (i := 0) (tmc 0 (.mk x0k x0n x0r x0ks x0cs)) (fun e => ⟨by omega, by simpa using g0 (by simp only [beq_iff_eq] at e; subst e; simp [kidsM] at hg2; omega)⟩)) ?_;refine Y5 ?_;refine Y51 ?_;refine Tri.cond rfl (fun h1 => ?_) (fun h1 => ?_)
  ·skip
   simp only [Bool.and_eq_true, beq_iff_eq] at h1
   have hl : 0 < ks.length := by rw [h1.1] at hg2; simp [kidsM] at hg2; omega
   have hsp : kindW ts (wayM t p) p.length (.mk k n r ks cs) = 1 := by simp only [kindW, h1.1, if_true, List.getElem?_eq_getElem hl, e0 hl, Tm.kind, h1.2] <;> rfl
   refine Y19 ?_;refine Y20 ?_;refine Y72 ?_;exact Tri.ret ⟨.inr rfl, ret2 rfl resV_tmp (iv_imp (by first | (rw [hfin, hkM, hsp]; done) | (rw [hfin, hkM, hsp]; rfl))) resV_tmp ((by rw [hfin]; exact VImp.refl _))⟩
  ·skip
   refine Y21 ?_;refine Y2 ?_;refine Tri.cond rfl (fun h2 => ?_) (fun h2 => ?_)
   ·skip
    have hsp : kindW ts (wayM t p) p.length (.mk k n r ks cs) = 2 := by simp only [beq_iff_eq] at h2; subst h2; rfl
    refine Y19 ?_;refine Y20 ?_;refine Y72 ?_;exact Tri.ret ⟨.inr rfl, ret2 rfl resV_tmp (iv_imp (by first | (rw [hfin, hkM, hsp]; done) | (rw [hfin, hkM, hsp]; rfl))) resV_tmp ((by rw [hfin]; exact VImp.refl _))⟩
   ·skip
    refine Y21 ?_;refine Y25 ?_;refine s_gg zG (v_callD (fun _ => rfind_c ts r hts)) ?_;refine Y51 ?_;refine Tri.cond rfl (fun h3 => ?_) (fun h3 => ?_)
    ·skip
     simp only [Bool.and_eq_true, beq_iff_eq] at h3
     have hsp : kindW ts (wayM t p) p.length (.mk k n r ks cs) = 3 := by simp only [kindW, h3.1]; rw [bod_fnd, show decide (0 ≤ fndM r ts) = true from by simpa using h3.2]; rfl
     refine Y19 ?_;refine Y20 ?_;refine Y72 ?_;exact Tri.ret ⟨.inr rfl, ret2 rfl resV_tmp (iv_imp (by first | (rw [hfin, hkM, hsp]; done) | (rw [hfin, hkM, hsp]; rfl))) resV_tmp ((by rw [hfin]; exact VImp.refl _))⟩
    ·skip
     refine Y41 ?_;refine s_gg zG (v_indexG SS (i := 0) (tmc 0 (.mk x0k x0n x0r x0ks x0cs)) (fun e => ⟨by omega, by simpa using g0 (by simp only [beq_iff_eq] at e; subst e; simp [kidsM] at hg2; omega)⟩)) ?_;refine Y5 ?_;refine Y17 ?_;refine Y11 ?_;refine s_gg zG (v_indexG SS (i := 1) (tmc 0 (.mk x1k x1n x1r x1ks x1cs)) (fun e => ⟨by omega, by simpa using g1 (by simp only [Bool.and_eq_true, beq_iff_eq] at e; obtain ⟨e, _⟩ := e; subst e; simp [kidsM] at hg2; omega)⟩)) ?_;refine Y5 ?_;refine Y51 ?_;refine Tri.cond rfl (fun h4 => ?_) (fun h4 => ?_)
     ·skip
      simp only [Bool.and_eq_true, beq_iff_eq] at h4
      have hl : ks.length = 2 := by rw [h4.1.1] at hg2; simp [kidsM] at hg2; omega
      have hsp : kindW ts (wayM t p) p.length (.mk k n r ks cs) = 4 := by
       obtain ⟨y0, y1, rfl⟩ : ∃ y0 y1, ks = [y0, y1] := list2 hl
       have q0 := e0 (by simp)
       have q1 := e1 (by simp)
       simp only [List.getElem_cons_zero, List.getElem_cons_succ] at q0 q1
       subst q0 q1
       simp [kindW, h4.1.1, Tm.kind, h4.1.2, h4.2]
      refine Y19 ?_;refine Y20 ?_;refine Y72 ?_;exact Tri.ret ⟨.inr rfl, ret2 rfl resV_tmp (iv_imp (by first | (rw [hfin, hkM, hsp]; done) | (rw [hfin, hkM, hsp]; rfl))) resV_tmp ((by rw [hfin]; exact VImp.refl _))⟩
     ·skip
      refine Y21 ?_;refine Y2 ?_;refine Tri.cond rfl (fun h5 => ?_) (fun h5 => ?_)
      ·skip
       have hk9 : k = 9 := by simpa using h5
       have hl : ks.length = 1 := by rw [hk9] at hg2; simp [kidsM] at hg2; omega
       obtain ⟨v, rfl⟩ : ∃ v, ks = [v] := List.length_eq_one_iff.1 hl
       have hvg : gdT 0 v := by have := hg5.1; rw [hk9, show moreM 9 ((0 : Nat) : Int) = 0 from by simp [moreM]] at this; simpa using this
       have hmk := match_kind hvg hg6 (by simp only [tsizeL] at hwsz; omega)
       have hsp : kindW ts (wayM t p) p.length (.mk k n r [v] cs) = cond (fitI v cs 0).isSome 5 8 := by rw [← hmk]; subst hk9; rfl
       refine Y6 ?_;refine s_val (v_callD (fun _ => rfitting_c k n r v [] cs (by simp only [tsize]; omega))) ?_;refine Y65 ?_;refine Y47 ?_;refine Tri.cond rfl (fun h6 => ?_) (fun h6 => ?_)
       ·skip
        have hso : (fitI v cs 0).isSome = true := by cases hf : fitI v cs 0 with
         | none => rw [hf] at h6; simp at h6
         | some x => rfl
        rw [hso] at hsp
        refine Y19 ?_;refine Y20 ?_;refine Y72 ?_;exact Tri.ret ⟨.inr rfl, ret2 rfl resV_tmp (iv_imp (by first | (rw [hfin, hkM, hsp]; done) | (rw [hfin, hkM, hsp]; rfl))) resV_tmp ((by rw [hfin]; exact VImp.refl _))⟩
       ·skip
        have hso : (fitI v cs 0).isSome = false := by cases hf : fitI v cs 0 with
         | none => rfl
         | some x => rw [hf] at h6; simp at h6
        rw [hso] at hsp
        refine Tri.skip ?_;refine Y20 ?_;refine Y72 ?_;exact Tri.ret ⟨.inr rfl, ret2 rfl resV_tmp (iv_imp (by first | (rw [hfin, hkM, hsp]; done) | (rw [hfin, hkM, hsp]; rfl))) resV_tmp ((by rw [hfin]; exact VImp.refl _))⟩
      ·skip
       refine Y21 ?_;refine Y2 ?_;refine Tri.cond rfl (fun h7 => ?_) (fun h7 => ?_)
       ·skip
        have hk11 : k = 11 := by simpa using h7
        have hnum := hg3 hk11
        have hsp : kindW ts (wayM t p) p.length (.mk k n r ks cs) = (if handM (wayM t p) r p.length < 0 then 9 else match (wayM t p)[(handM (wayM t p) r p.length).toNat]? with | some h => cond (decide ((h.kids.length : Int) > 2 + n)) 6 8 | none => 8) := by subst hk11; rfl
        refine Y54 ?_;refine s_val (v_callD (fun _ => hhc)) ?_;refine Y47 ?_;refine Tri.cond rfl (fun h8 => ?_) (fun h8 => ?_)
        ·skip
         rw [if_pos (by simpa using h8)] at hsp
         refine Y19 ?_;refine Y20 ?_;refine Y72 ?_;exact Tri.ret ⟨.inr rfl, ret2 rfl resV_tmp (iv_imp (by first | (rw [hfin, hkM, hsp]; done) | (rw [hfin, hkM, hsp]; rfl))) resV_tmp ((by rw [hfin]; exact VImp.refl _))⟩
        ·skip
         have hnn : ¬ handM (wayM t p) r p.length < 0 := by simpa using h8
         rw [if_neg hnn] at hsp
         obtain ⟨m, hm⟩ : ∃ m : Nat, handM (wayM t p) r p.length = (m : Int) := ⟨(handM (wayM t p) r p.length).toNat, by omega⟩
         rw [hm] at hsp hhl ⊢
         have hmp : m < p.length := by omega
         have hwg := way_get hok (show m ≤ p.length by omega)
         simp only [Int.toNat_natCast, hwg] at hsp
         have hatm := rat_c (G := G) t (p.take m) (walk_take_ok m hok) (by rw [List.length_take]; omega)
         rw [← pathL_take] at hatm
         generalize walkM t (p.take m) = x at hsp hatm
         obtain ⟨xk, xn, xr, xks, xcs⟩ := x
         simp only [Tm.kids] at hsp
         refine Y21 ?_;refine yL ?_;refine Y42 ?_;refine s_val (v_sliceTo SS (ps := pathL p) (r := m) (by rw [path_len]; omega)) ?_;refine s_val (v_callD (fun _ => hatm)) ?_;refine s_val (v_getField SS (ht := TyV.ok)) ?_;refine Y24 ?_;refine Y38 ?_;refine Tri.cond rfl (fun h9 => ?_) (fun h9 => ?_)
         ·skip
          rw [tms_length, wrap64 (by omega) (by omega)] at h9
          replace hsp := hsp.trans (show _ = (6 : Int) from by have h : 2 + n < (xks.length : Int) := (by have := of_decide_eq_true h9; omega); simp [h])
          refine Y19 ?_;refine Y20 ?_;refine Y72 ?_;exact Tri.ret ⟨.inr rfl, ret2 rfl resV_tmp (iv_imp (by first | (rw [hfin, hkM, hsp]; done) | (rw [hfin, hkM, hsp]; rfl))) resV_tmp ((by rw [hfin]; exact VImp.refl _))⟩
         ·skip
          rw [tms_length, wrap64 (by omega) (by omega)] at h9
          replace hsp := hsp.trans (show _ = (8 : Int) from by have h : ¬ 2 + n < (xks.length : Int) := (by have := of_decide_eq_false h9; omega); simp [h])
          refine Tri.skip ?_;refine Y20 ?_;refine Y72 ?_;exact Tri.ret ⟨.inr rfl, ret2 rfl resV_tmp (iv_imp (by first | (rw [hfin, hkM, hsp]; done) | (rw [hfin, hkM, hsp]; rfl))) resV_tmp ((by rw [hfin]; exact VImp.refl _))⟩
       ·skip
        refine Y21 ?_;refine Y2 ?_;refine Tri.cond rfl (fun h10 => ?_) (fun h10 => ?_)
        ·skip
         have hsp : kindW ts (wayM t p) p.length (.mk k n r ks cs) = 7 := by simp only [beq_iff_eq] at h10; subst h10; rfl
         refine Y19 ?_;refine Y20 ?_;refine Y72 ?_;exact Tri.ret ⟨.inr rfl, ret2 rfl resV_tmp (iv_imp (by first | (rw [hfin, hkM, hsp]; done) | (rw [hfin, hkM, hsp]; rfl))) resV_tmp ((by rw [hfin]; exact VImp.refl _))⟩
        ·skip
         have hsp : kindW ts (wayM t p) p.length (.mk k n r ks cs) = 8 := by
          simp only [beq_eq_false_iff_ne, ne_eq, Bool.and_eq_false_iff, decide_eq_false_iff_not] at h1 h2 h3 h4 h5 h7 h10
          simp only [kindW]
          by_cases k4 : k = 4
          ·have hl : 0 < ks.length := by rw [k4] at hg2; simp [kidsM] at hg2; omega
           rw [if_pos k4, List.getElem?_eq_getElem hl, e0 hl]
           have : ¬ x0k = 3 := h1.elim (fun h => absurd k4 h) id
           simp only [Tm.kind, show (x0k == 3) = false from by simpa using this, cond_false]
          rw [if_neg k4, if_neg h2]
          by_cases k6 : k = 6
          ·rw [if_pos k6, bod_fnd]
           have : ¬ fndM r ts ≥ 0 := h3.elim (fun h => absurd k6 h) id
           rw [show decide (0 ≤ fndM r ts) = false from by simp; omega]; rfl
          rw [if_neg k6]
          by_cases k10 : k = 10
          ·have hl : ks.length = 2 := by rw [k10] at hg2; simp [kidsM] at hg2; omega
           obtain ⟨y0, y1, rfl⟩ : ∃ y0 y1, ks = [y0, y1] := list2 hl
           have q0 := e0 (by simp)
           have q1 := e1 (by simp)
           simp only [List.getElem_cons_zero, List.getElem_cons_succ] at q0 q1
           subst q0 q1;rw [if_pos k10]
           have : ¬ (x0k = 2 ∧ x1k = 2) := fun ⟨a, b⟩ => h4.elim (fun h => h.elim (fun h => h k10) fun h => h a) fun h => h b
           have h5 : ([Tm.mk x0k x0n x0r x0ks x0cs, .mk x1k x1n x1r x1ks x1cs].all fun x => x.kind == 2) = false := by
            simp only [List.all_cons, List.all_nil, Bool.and_true, Tm.kind]
            rw [Bool.eq_false_iff]; simpa using this
           rw [h5]; rfl
          rw [if_neg k10, if_neg h5, if_neg h7, if_neg h10]
         refine Tri.skip ?_;refine Y20 ?_;refine Y72 ?_;exact Tri.ret ⟨.inr rfl, ret2 rfl resV_tmp (iv_imp (by first | (rw [hfin, hkM, hsp]; done) | (rw [hfin, hkM, hsp]; rfl))) resV_tmp ((by rw [hfin]; exact VImp.refl _))⟩
end Go.Proofs.YtkcgkignhpepkaaGreatDoor

/- Whether a term is more than is looked at. -/
namespace Go.Proofs.YtkcgkignhpepkaaGreatDoor
open Go Hs
variable {G : List (Nat × TypeId × Pu)}
abbrev gcO (c : Int) : List (Nat × Ob) := [(3, .var 3 (iv .i64 c))]
abbrev gpV : PV := .fn (.func 119) [] [.ptr 3 [] 3, .ptr 4 [] 185]
abbrev gtV : PV := .fn (.func 121) [] [.ptr 3 [] 3, .ptr 5 [] 45, .ptr 4 [] 185]
abbrev gcV : PV := .fn (.func 124) [] [.ptr 4 [] 185, .ptr 5 [] 45]
abbrev gpO : List (Nat × Ob) := [(4, .var 185 gpV)]
abbrev gtO : List (Nat × Ob) := [(4, .var 185 gpV), (5, .var 45 gtV)]
abbrev MD : Int := 1152921504606846976
theorem gp_c : ∀ (N : Nat) (p : Pat), psize p ≤ N → N < 2^40 → ∀ (d c : Int), 0 ≤ c ∧ c ≤ 400 → 0 ≤ d ∧ d + N ≤ 2^50 →
  HCall Tryz.prog G 119 [.pu (patc 0 p), .ptr 3 [] 3, .ptr 4 [] 185] gpO (gcO c) (bv (longP 400 MD d c p).1) (gcO (longP 400 MD d c p).2) [] := by
 intro N
 induction N with
 | zero => intro p h; cases p; simp [psize] at h
 | succ N ih =>
 intro p hp hN d c hc hd
 obtain ⟨k, n, r, ks⟩ := p
 simp only [psize] at hp
 have hlen := length_psizeL ks
 have key : c + 1 ≤ 400 → ∃ r, r.isSome = (longPs 400 MD (d + 1) (c + 1) ks).1 ∧ AnyC Tryz.prog G 119 [] [.ptr 3 [] 3, .ptr 4 [] 185] gpO (patsc 0 ks) (gcO (c + 1)) r (gcO (longPs 400 MD (d + 1) (c + 1) ks).2) := fun hc' => by
  rw [longPs_eq, pats_eq];refine AnyC.state (patc 0) (longP 400 MD (d + 1)) gcO (fun c => 0 ≤ c ∧ c ≤ 400) (fun _ => rfl) ks (fun a ha c hc => ?_) (c + 1) ⟨by omega, hc'⟩
  have hb := longP_b (mn := 400) (md := MD) a (d + 1) c hc.2
  exact ⟨ih a (by have := psize_mem ha; omega) (by omega) (d + 1) c hc (by omega), fun e => ⟨by have := hb.1; omega, hb.2.2 e⟩⟩
 refine HCall.of_triD tbl 15 [3, 4] Tryz.func119 rfl rfl rfl fun w0 M ρ0 D0 => ?_
 by_cases hcut : 400 < c + 1
 ·have e : longP 400 MD d c (.mk k n r ks) = (true, c + 1) := by simp only [longP]; rw [if_pos (.inl hcut)]
  rw [e, ← wrap64 (n := c + 1) (by omega) (by omega)]
  have hb0 : decide (IntKind.i64.wrap (c + 1) > 400) = true := by rw [wrap64 (by omega) (by omega)]; simp; omega
  refine yR ?_;refine s_box SS 31 ?_;refine yB ?_;refine e_seqN [31] ?_;refine Y6 ?_;refine yI ?_;refine Y16 ?_;refine Y6 ?_;refine yI ?_;refine Y11 ?_;refine xL ?_;refine s_callG zG (f := 120) (args := [.pu (.sl 0 104 (patsc 0 ks)), gpV]) (HR := []) (H := []) (H' := []) (v := bv false) (fun e => by simp [hb0] at e) (fun _ => .nil) ?_;refine Y70 ?_;exact Tri.ret ⟨.inr rfl, ret1 rfl resV_tmp (bv_imp (by rw [hb0]; rfl)), zO⟩
 ·obtain ⟨r1, hr1, hA⟩ := key (by omega)
  have e : longP 400 MD d c (.mk k n r ks) = longPs 400 MD (d + 1) (c + 1) ks := by simp only [longP]; rw [if_neg (by simp only [MD]; omega)]
  have hb0 : decide (IntKind.i64.wrap (c + 1) > 400) = false := by rw [wrap64 (by omega) (by omega)]; simp; omega
  rw [e]
  generalize longPs 400 MD (d + 1) (c + 1) ks = q1 at hr1 hA ⊢
  obtain ⟨b1, c1⟩ := q1
  simp only at hr1 hA ⊢
  rw [← wrap64 (n := c + 1) (by omega) (by omega)] at hA
  refine yR ?_;refine s_box SS 31 ?_;refine yB ?_;refine e_seqN [31] ?_;refine Y6 ?_;refine yI ?_;refine Y16 ?_;refine Y6 ?_;refine yI ?_;refine Y11 ?_;refine xL ?_;refine s_callG zG (f := 120) (args := [.pu (.sl 0 104 (patsc 0 ks)), gpV]) (HR := gpO) (H := gcO (IntKind.i64.wrap (c + 1))) (H' := gcO c1) (v := bv b1) (fun _ => hr1 ▸ conPat_d (lo := 0) gpV (by rw [pats_length]; omega) hA) (fun e => by simp [hb0] at e) ?_;refine Y70 ?_;exact Tri.ret ⟨.inr rfl, ret1 rfl resV_tmp (bv_imp (by rw [hb0]; rfl)), zO⟩
theorem gc_c (p : Pat) (t : Tm) (d c : Int) (hc : 0 ≤ c ∧ c ≤ 400) (hd : 0 ≤ d ∧ d + psize p ≤ 2^50) (hpz : psize p < 2^40)
  (h2 : (longP 400 MD d c p).1 = false → HCall Tryz.prog G 121 [.pu (tmc 0 t), .ptr 3 [] 3, .ptr 5 [] 45, .ptr 4 [] 185] gtO (gcO (longP 400 MD d c p).2) (bv (longT 400 MD d (longP 400 MD d c p).2 t).1) (gcO (longT 400 MD d (longP 400 MD d c p).2 t).2) []) :
  HCall Tryz.prog G 124 [.pu (csec 0 (.mk p t)), .ptr 4 [] 185, .ptr 5 [] 45] gtO (gcO c) (bv (longC 400 MD d c (.mk p t)).1) (gcO (longC 400 MD d c (.mk p t)).2) [] := by
 have h := gp_c (G := G) _ p (Nat.le_refl _) hpz d c hc hd
 rw [grC_parts]
 generalize hb1 : longP 400 MD d c p = r1 at h h2 ⊢
 obtain ⟨b1, c1⟩ := r1
 simp only at h h2 ⊢
 refine HCall.of_triD tbl 15 [3, 4, 5] Tryz.func124 rfl rfl rfl fun w0 M ρ0 D0 => ?_
 refine yR ?_;refine s_box SS 31 ?_;refine yB ?_;refine e_seqN [31] ?_;refine Y6 ?_;refine Y4 ?_;refine s_call (h) ?_;refine Y63 ?_;refine Y5 ?_;refine s_callG zG (f := 121) (args := [.pu (tmc 0 t), .ptr 3 [] 3, .ptr 5 [] 45, .ptr 4 [] 185]) (HR := gtO) (H := gcO c1) (H' := gcO (if b1 = true then c1 else (longT 400 MD d c1 t).2)) (v := bv (longT 400 MD d c1 t).1) (fun e => ?_) (fun e => ?_) ?_
 ·have e' : b1 = false := by simpa using e
  have := h2 e'
  simpa [e'] using this
 ·have e' : b1 = true := by simpa using e
  exact .cons rfl (by simp [e']) .nil
 refine Y70 ?_;exact Tri.ret ⟨.inr rfl, ret1 rfl resV_tmp (VImp.refl _), zO⟩
theorem gT_parts (d c k n : Int) (r : List Int) (ks : List Tm) (cs : List Cs) (h : ¬ (400 < c + 1 ∨ MD < d)) : longT 400 MD d c (.mk k n r ks cs) = ((longTs 400 MD (d + 1) (c + 1) ks).1 || (longCs 400 MD (d + 1) (longTs 400 MD (d + 1) (c + 1) ks).2 cs).1, if (longTs 400 MD (d + 1) (c + 1) ks).1 then (longTs 400 MD (d + 1) (c + 1) ks).2 else (longCs 400 MD (d + 1) (longTs 400 MD (d + 1) (c + 1) ks).2 cs).2) := by
 simp only [longT, if_neg h]
 rcases longTs 400 MD (d + 1) (c + 1) ks with ⟨b, c'⟩
 cases b <;> simp
set_option maxHeartbeats 1000000 in
theorem gt_c : ∀ (N : Nat) (t : Tm), tsize t ≤ N → N < 2^40 → ∀ (d c : Int), 0 ≤ c ∧ c ≤ 400 → 0 ≤ d ∧ d + N ≤ 2^50 →
  HCall Tryz.prog G 121 [.pu (tmc 0 t), .ptr 3 [] 3, .ptr 5 [] 45, .ptr 4 [] 185] gtO (gcO c) (bv (longT 400 MD d c t).1) (gcO (longT 400 MD d c t).2) [] := by
 intro N
 induction N with
 | zero => intro t h; have := tsize_pos t; omega
 | succ N ih =>
 intro t hp hN d c hc hd
 obtain ⟨k, n, r, ks, cs⟩ := t
 simp only [tsize] at hp
 have hlen := length_tsizeL ks
 have hlenc := length_csizeL cs
 have keyT : c + 1 ≤ 400 → ∃ r, r.isSome = (longTs 400 MD (d + 1) (c + 1) ks).1 ∧ AnyC Tryz.prog G 121 [] [.ptr 3 [] 3, .ptr 5 [] 45, .ptr 4 [] 185] gtO (tmsc 0 ks) (gcO (c + 1)) r (gcO (longTs 400 MD (d + 1) (c + 1) ks).2) := fun hc' => by
  rw [longTs_eq, tms_eq];refine AnyC.state (tmc 0) (longT 400 MD (d + 1)) gcO (fun c => 0 ≤ c ∧ c ≤ 400) (fun _ => rfl) ks (fun a ha c hc => ?_) (c + 1) ⟨by omega, hc'⟩
  have hb := longT_b (mn := 400) (md := MD) a (d + 1) c hc.2
  exact ⟨ih a (by have := tsize_mem ha; omega) (by omega) (d + 1) c hc (by omega), fun e => ⟨by have := hb.1; omega, hb.2.2 e⟩⟩
 have keyC : ∀ c1, 0 ≤ c1 ∧ c1 ≤ 400 → ∃ r, r.isSome = (longCs 400 MD (d + 1) c1 cs).1 ∧ AnyC Tryz.prog G 124 [] [.ptr 4 [] 185, .ptr 5 [] 45] gtO (cssc 0 cs) (gcO c1) r (gcO (longCs 400 MD (d + 1) c1 cs).2) := fun c1 hc1 => by
  rw [longCs_eq, css_eq];refine AnyC.state (csec 0) (longC 400 MD (d + 1)) gcO (fun c => 0 ≤ c ∧ c ≤ 400) (fun _ => rfl) cs (fun a ha c hc => ?_) c1 hc1
  have hb := longC_b (mn := 400) (md := MD) a (d + 1) c hc.2
  have hsz := csize_mem ha
  obtain ⟨q, b⟩ := a
  simp only [csize] at hsz
  have hp1 := longP_b (mn := 400) (md := MD) q (d + 1) c hc.2
  have htp := tsize_pos b
  have hqp := psize_pos q
  exact ⟨gc_c q b (d + 1) c hc (by omega) (by omega) (fun e => ih b (by omega) (by omega) (d + 1) _ ⟨by have := hp1.1; omega, hp1.2.2 e⟩ (by omega)), fun e => ⟨by have := hb.1; omega, hb.2.2 e⟩⟩
 refine HCall.of_triD tbl 22 [3, 4, 5] Tryz.func121 rfl rfl rfl fun w0 M ρ0 D0 => ?_
 by_cases hcut : 400 < c + 1
 ·have e : longT 400 MD d c (.mk k n r ks cs) = (true, c + 1) := by simp only [longT]; rw [if_pos (.inl hcut)]
  rw [e, ← wrap64 (n := c + 1) (by omega) (by omega)]
  have hb0 : decide (IntKind.i64.wrap (c + 1) > 400) = true := by rw [wrap64 (by omega) (by omega)]; simp; omega
  refine yR ?_;refine s_box SS 31 ?_;refine yB ?_;refine e_seqN [31] ?_;refine Y6 ?_;refine yI ?_;refine Y16 ?_;refine Y6 ?_;refine yI ?_;refine Y11 ?_;refine xL ?_;refine s_callG zG (f := 122) (args := [.pu (.sl 0 32 (tmsc 0 ks)), gtV]) (HR := []) (H := []) (H' := []) (v := bv false) (fun e => by simp [hb0] at e) (fun _ => .nil) ?_;refine yO ?_;refine Y11 ?_;refine s_gg zG (v_mkFnD SS) ?_;refine s_callG zG (f := 123) (args := [.pu (.sl 0 106 (cssc 0 cs)), gcV]) (HR := []) (H := []) (H' := []) (v := bv false) (fun e => by simp [hb0] at e) (fun _ => .nil) ?_;refine Y70 ?_;exact Tri.ret ⟨.inr rfl, ret1 rfl resV_tmp (bv_imp (by rw [hb0]; rfl)), zO⟩
 ·obtain ⟨r1, hr1, hA⟩ := keyT (by omega)
  have hb1 := longTs_b (mn := 400) (md := MD) ks (d + 1) (c + 1) (by omega)
  have hb0 : decide (IntKind.i64.wrap (c + 1) > 400) = false := by rw [wrap64 (by omega) (by omega)]; simp; omega
  rw [gT_parts d c k n r ks cs (by simp only [MD]; omega)]
  generalize longTs 400 MD (d + 1) (c + 1) ks = q1 at hr1 hA hb1 ⊢
  obtain ⟨b1, c1⟩ := q1
  obtain ⟨hb1, _, hb2⟩ := hb1
  simp only at hr1 hA hb1 hb2 ⊢
  rw [← wrap64 (n := c + 1) (by omega) (by omega)] at hA
  have hC : b1 = false → ∃ r2 : Option Nat, r2.isSome = (longCs 400 MD (d + 1) c1 cs).1 ∧ _ := fun e => keyC c1 ⟨by omega, hb2 e⟩
  refine yR ?_;refine s_box SS 31 ?_;refine yB ?_;refine e_seqN [31] ?_;refine Y6 ?_;refine yI ?_;refine Y16 ?_;refine Y6 ?_;refine yI ?_;refine Y11 ?_;refine xL ?_;refine s_callG zG (f := 122) (args := [.pu (.sl 0 32 (tmsc 0 ks)), gtV]) (HR := gtO) (H := gcO (IntKind.i64.wrap (c + 1))) (H' := gcO c1) (v := bv b1) (fun _ => hr1 ▸ conTm_d (lo := 0) gtV (by rw [tms_length]; omega) hA) (fun e => by simp [hb0] at e) ?_;refine yO ?_;refine Y11 ?_;refine s_gg zG (v_mkFnD SS) ?_;refine s_callG zG (f := 123) (args := [.pu (.sl 0 106 (cssc 0 cs)), gcV]) (HR := gtO) (H := gcO c1) (H' := gcO (if b1 = true then c1 else (longCs 400 MD (d + 1) c1 cs).2)) (v := bv (longCs 400 MD (d + 1) c1 cs).1) (fun e => ?_) (fun e => ?_) ?_
  ·have e' : b1 = false := by simpa [hb0] using e
   obtain ⟨r2, hr2, hA2⟩ := hC e'
   simp only [e', Bool.false_eq_true, if_false]
   exact hr2 ▸ conCs_d (lo := 0) gcV (by rw [css_length]; omega) hA2
  ·have e' : b1 = true := by simpa [hb0] using e
   exact .cons rfl (by simp [e']) .nil
  refine Y70 ?_;exact Tri.ret ⟨.inr rfl, ret1 rfl resV_tmp (bv_imp (by rw [hb0]; rfl)), zO⟩
def greatM (t : Tm) : Bool := (longT 400 MD 0 0 t).1
theorem great_size {t : Tm} (h : greatM t = false) : tsize t ≤ 400 := by
 obtain ⟨_, h2⟩ := longT_ls 400 MD t 0 0
 unfold greatM at h
 refine Nat.le_of_not_lt fun hlt => ?_
 have := h2 (by omega)
 rw [h] at this; cases this
theorem great_c (t : Tm) (hN : tsize t < 2^40) : FCall Tryz.prog G 52 [.pu (tmc 0 t)] (bv (greatM t)) := by
 refine FCall.of_tri tbl 11 Tryz.func52 rfl rfl rfl fun w0 M ρ0 D0 => ?_
 refine yR ?_;refine s_box SS 1 ?_;refine yB ?_;refine e_seqN [1] ?_;refine yR ?_;refine s_alloc SS 3 ?_;refine yS ?_;refine e_seqN [3] ?_;refine yR ?_;refine s_alloc SS 4 ?_;refine e_seqN [4] ?_;refine yR ?_;refine s_val (v_mkFnD SS) ?_;refine Y66 ?_;refine s_alloc SS 5 ?_;refine e_seqN [5] ?_;refine yR ?_;refine s_val (v_mkFnD SS) ?_;refine Y16 ?_;refine Y33 ?_;refine s_call (gt_c _ t (Nat.le_refl _) hN 0 0 (by omega) (by omega)) ?_;refine Y2 ?_;exact Tri.ret ⟨.inr rfl, ret1 rfl resV_tmp (VImp.refl _)⟩
end Go.Proofs.YtkcgkignhpepkaaGreatDoor

/- Whether a world is more than is looked at; a world's own copy. -/
namespace Go.Proofs.YtkcgkignhpepkaaGreatDoor
open Go Hs
section
variable {G : List (Nat × TypeId × Pu)} {lo : Nat}
theorem idxKt_c {vf : PV} {f : FuncId} {first captured : List PV} {HR : List (Nat × Ob)} (hvf : fnV vf = some (f, first, captured)) (hst : Str vf vf) (hnt : isTup vf = false) (hent : entersB Tryz.prog f = true) (hna : (first ++ captured).any isTup = false)
  (hfree : ∀ l ob, get HR l = some ob → freeOb ob = true) {ps : List Pu} (hlen : ps.length < 4611686018427387904) {H H' : List (Nat × Ob)} {r : Option Nat} (hd0 : disjB HR H' = true) (hk : ∀ l ob, get H l = some ob → ∃ ob', get H' l = some ob') (hR : ∀ l ob, get HR l = some ob → get H l = none)
  (h : AnyC Tryz.prog G f first captured HR ps H r H') : HCall Tryz.prog G 142 [.pu (.sl lo 116 ps), vf] HR H (iv .i64 (idxV r)) H' [] := by
 refine HCall.of_tri tbl (n := 19) (L := keysOf H' ++ heapLabs H') Tryz.func142 rfl rfl hfree (fun l ob hl => disjB_none hd0 hl) (fun l hl => by simp [PV.labs] at hl) (fun l ob hl => keys_mem hl) hk ?_
 rintro ⟨w0, n', M, G', L, R, ρ0, D0, ro⟩ hn hG hL hR' hro
 simp only at hn hG hL hR' hro
 subst hn hG hL hR' hro
 have hset : ∀ (i : Nat) (H1 : List (Nat × Ob)) (r1 : Option Nat), AnyC Tryz.prog G' f first captured HR (ps.drop i) H1 r1 H' → True := fun _ _ _ _ => trivial
 let σ := {s : Nat × List (Nat × Ob) × Option Nat // AnyC Tryz.prog G' f first captured HR (ps.drop s.1) s.2.1 s.2.2 H' ∧ s.1 ≤ ps.length ∧ idxV r = (match s.2.2 with | some j => ((s.1 + j : Nat) : Int) | none => -1) ∧ (∀ l ob, get s.2.1 l = some ob → l ∉ keysOf HR)}
 refine Y48 ?_;refine Y36 ?_;refine Tri.block (Tri.loop (σ := σ) (fun s => ⟨[(0, .pu (.sl lo 116 ps)), (1, vf), (7, iv .i64 ps.length), (8, iv .i64 s.1.1)], HR ++ s.1.2.1⟩) (fun s => ps.length - s.1.1) ⟨(0, H, r), by simpa using h, Nat.zero_le _, by cases r <;> simp [idxV], fun l ob hl hm => ?_⟩ ?_ (fun s => ?_))
 ·obtain ⟨ob', ho⟩ := get_some_of (a := HR) hm
  rw [hR l ob' ho] at hl
  cases hl
 ·exact le_same (.cons rfl rfl (.cons rfl rfl (.cons rfl rfl (.cons rfl rfl .nil))))
 obtain ⟨⟨i, H1, r1⟩, hA, hi0, hr1, hdisj⟩ := s
 simp only at hA hi0 hr1 hdisj ⊢
 refine Y9 ?_;refine e_seq ?_;refine Tri.seq (Tri.cond rfl (fun hb => Tri.skip ?_) (fun hb => Tri.exit ?_))
 ·have hi : i < ps.length := by simpa using hb
  obtain ⟨p, hp⟩ : ∃ p, ps[i]? = some p := ⟨ps[i], by simp [hi]⟩
  have hdr : ps.drop i = p :: ps.drop (i + 1) := by
   rw [List.drop_eq_getElem_cons hi]
   simp only [List.getElem?_eq_getElem hi, Option.some.injEq] at hp
   rw [hp]
  rw [hdr] at hA
  have hHR : ∀ l ob, get HR l = some ob → ∃ ob1, get (HR ++ H1) l = some ob1 ∧ ObImp Tryz.prog ob1 ob := fun l ob hl => ⟨ob, by rw [get_append, hl]; rfl, ObImp.refl _⟩
  have hH1 : ∀ l ob, get H1 l = some ob → l ∉ keysOf HR ∧ ∃ ob1, get (HR ++ H1) l = some ob1 ∧ ObImp Tryz.prog ob1 ob := fun l ob hl => by
   refine ⟨hdisj l ob hl, ob, ?_, ObImp.refl _⟩
   rw [get_append]
   cases hg : get HR l with
   | some o => exact absurd (get_keys hg) (hdisj l ob hl)
   | none => simpa using hl
  have hnt2 : (first ++ [PV.pu p] ++ captured).any isTup = false := by
   simp only [List.any_append, Bool.or_eq_false_iff] at hna ⊢
   exact ⟨⟨hna.1, by simp [isTup]⟩, hna.2⟩
  refine Tri.seq (Tri.block ?_);refine Y75 ?_
  cases hA with
  | hit hc hd =>
   refine yR ?_;refine s_val (v_move SS (h := Ev.mk rfl hst)) ?_;refine Y42 ?_;refine s_val (v_index SS (h0 := by omega) (hp := hp)) ?_;refine yL ?_;refine step_call (vf := vf) (first := first) (captured := captured) (vs := [.pu p]) (HR := HR) (H := H1) (news := []) rfl hst hvf hent (.cons (.mk rfl .pu) .nil) rfl (VImps.refl _) hnt2 hHR hH1 hc rfl ?_;refine Y0 ?_;refine Tri.condT rfl ?_;refine Y75 ?_;refine Tri.ret ⟨.inr rfl, _, Ghost.refl _, ret1 rfl resV_tmp (iv_imp ?_), fun l ob hl => ⟨ob, ?_, ObImp.refl _⟩⟩
   ·rw [hr1]
    simp
   ·rw [get_append, hl]; rfl
  | next hc hd t =>
   rename_i H2 r2
   refine yR ?_;refine s_val (v_move SS (h := Ev.mk rfl hst)) ?_;refine Y42 ?_;refine s_val (v_index SS (h0 := by omega) (hp := hp)) ?_;refine yL ?_;refine step_call (vf := vf) (first := first) (captured := captured) (vs := [.pu p]) (HR := HR) (H := H1) (news := []) rfl hst hvf hent (.cons (.mk rfl .pu) .nil) rfl (VImps.refl _) hnt2 hHR hH1 hc rfl ?_;refine Y0 ?_;refine Tri.condF rfl ?_;refine Tri.skip ?_;refine Y30 ?_
   refine ⟨⟨(i + 1, H2, r2), t, hi, ?_, fun l ob hl hm => ?_⟩, by simp; omega, le_call hd (.cons rfl rfl (.cons rfl rfl (.cons rfl rfl (.cons rfl ?_ .nil))))⟩
   ·rw [hr1]
    cases r2 with
    | none => rfl
    | some j => exact congrArg (fun n : Nat => (n : Int)) (show i + (j + 1) = i + 1 + j by omega)
   ·obtain ⟨ob', ho⟩ := get_some_of (a := HR) hm
    rw [disjB_none hd hl] at ho
    cases ho
   ·rw [wrap64 (by omega) (by omega)]
    rfl
 ·have hi : i = ps.length := by
   have : ps.length ≤ i := by simpa using hb
   omega
  subst hi
  rw [List.drop_length] at hA
  cases hA
  refine Y19 ?_;refine Tri.ret ⟨.inr rfl, _, Ghost.refl _, ret1 rfl resV_tmp (iv_imp (by rw [hr1])), fun l ob hl => ⟨ob, ?_, ObImp.refl _⟩⟩;rw [get_append]
  cases hg : get HR l with
  | some o => exact absurd (get_keys hg) (hdisj l ob hl)
  | none => simpa using hl
theorem conKt_c {vf : PV} {f : FuncId} {first captured : List PV} {HR : List (Nat × Ob)} (hvf : fnV vf = some (f, first, captured)) (hst : Str vf vf) (hnt : isTup vf = false) (hent : entersB Tryz.prog f = true) (hna : (first ++ captured).any isTup = false)
  (hfree : ∀ l ob, get HR l = some ob → freeOb ob = true) {ps : List Pu} (hlen : ps.length < 4611686018427387904) {H H' : List (Nat × Ob)} {r : Option Nat} (hd0 : disjB HR H' = true) (hd1 : disjB HR H = true) (hk : ∀ l ob, get H l = some ob → ∃ ob', get H' l = some ob')
  (h : AnyC Tryz.prog G f first captured HR ps H r H') : HCall Tryz.prog G 79 [.pu (.sl lo 116 ps), vf] HR H (bv r.isSome) H' [] := by
 refine HCall.of_tri tbl (n := 9) (L := keysOf H' ++ heapLabs H') Tryz.func79 rfl rfl hfree (fun l ob hl => disjB_none hd0 hl) (fun l hl => by simp [PV.labs] at hl) (fun l ob hl => keys_mem hl) hk ?_
 rintro ⟨w0, n', M, G', L, R, ρ0, D0, ro⟩ hn hG hL hR' hro
 simp only at hn hG hL hR' hro
 subst hn hG hL hR' hro
 have hHR : ∀ l ob, get HR l = some ob → ∃ ob1, get (HR ++ H) l = some ob1 ∧ ObImp Tryz.prog ob1 ob := fun l ob hl => ⟨ob, by rw [get_append, hl]; rfl, ObImp.refl _⟩
 have hH1 : ∀ l ob, get H l = some ob → l ∉ keysOf HR ∧ ∃ ob1, get (HR ++ H) l = some ob1 ∧ ObImp Tryz.prog ob1 ob := fun l ob hl => by
  have hz := disjB_none hd1 hl
  refine ⟨fun hm => ?_, ob, ?_, ObImp.refl _⟩
  ·obtain ⟨ob', ho⟩ := get_some_of (a := HR) hm
   rw [hz] at ho; cases ho
  ·rw [get_append, hz]; simpa using hl
 refine Y48 ?_;refine s_val (v_move SS (h := Ev.mk rfl hst)) ?_;refine step_call (vf := .pu (.leaf (.func (.func 142) #[] #[]))) (first := []) (captured := []) (vs := [.pu (.sl lo 116 ps), vf]) (HR := HR) (H := H) (news := []) rfl .pu rfl (by kernel_rfl) (.cons (.mk rfl .pu) (.cons (.mk rfl hst) .nil)) (by rw [List.any_cons, List.any_cons, hnt]; rfl) (VImps.refl _) (by rw [List.nil_append, List.append_nil, List.any_cons, List.any_cons, hnt]; rfl) hHR hH1 (idxKt_c hvf hst hnt hent hna hfree hlen hd0 hk (fun l ob hl => disjB_none' hd1 hl) h) rfl ?_;refine yI ?_;refine Y10 ?_;refine Tri.ret ⟨.inr rfl, _, Ghost.refl _, ret1 rfl resV_tmp (bv_imp ?_), fun l ob hl => ⟨ob, by rw [get_append, hl]; rfl, ObImp.refl _⟩⟩
 cases r with
 | none => simp [idxV]
 | some j => simp [idxV]
theorem conKt_d (vf : PV) {f : FuncId} {first captured : List PV} {HR : List (Nat × Ob)} {ps : List Pu} (hlen : ps.length < 4611686018427387904) {H H' : List (Nat × Ob)} {r : Option Nat} (h : AnyC Tryz.prog G f first captured HR ps H r H')
  (hvf : fnV vf = some (f, first, captured) := by rfl) (hst : Str vf vf := by repeat constructor) (hnt : isTup vf = false := by rfl) (hent : entersB Tryz.prog f = true := by kernel_rfl) (hna : (first ++ captured).any isTup = false := by rfl)
  (hfree : HR.all (fun q => freeOb q.2) = true := by rfl) (hd0 : disjB HR H' = true := by rfl) (hd1 : disjB HR H = true := by rfl) (hk : ((keysOf H).all fun l => (keysOf H').contains l) = true := by rfl) :
  HCall Tryz.prog G 79 [.pu (.sl lo 116 ps), vf] HR H (bv r.isSome) H' [] :=
 conKt_c hvf hst hnt hent hna (fun l ob hl => List.all_eq_true.1 hfree _ (get_mem hl)) hlen hd0 hd1 (fun l ob hl => get_some_of (by simpa [keysOf] using List.all_eq_true.1 hk l (get_keys hl))) h
end
variable {G : List (Nat × TypeId × Pu)}
theorem lgreat1_c (x : KT) (hN : tsize x.2 < 2^40) : FCall Tryz.prog G 82 [.pu (ktP x)] (bv (greatM x.2)) := by
 refine FCall.of_tri tbl 6 Tryz.func82 rfl rfl rfl fun w0 M ρ0 D0 => ?_
 refine yR ?_;refine s_box SS 1 ?_;refine yB ?_;refine e_seqN [1] ?_;refine Y13 ?_;refine s_val (v_callD (fun _ => great_c x.2 hN)) ?_;refine Y2 ?_;exact Tri.ret ⟨.inr rfl, ret1 rfl resV_tmp (VImp.refl _)⟩
def wgreatM (ts : List KT) (t : Tm) : Bool := decide ((ts.length : Int) > 45) || greatM t || ts.any (fun x => greatM x.2)
theorem wgreat_ok {ts : List KT} {t : Tm} (h : wgreatM ts t = false) : ts.length ≤ 45 ∧ tsize t ≤ 400 ∧ ∀ x ∈ ts, tsize x.2 ≤ 400 := by
 simp only [wgreatM, Bool.or_eq_false_iff, decide_eq_false_iff_not, List.any_eq_false] at h
 exact ⟨by omega, great_size h.1.2, fun x hx => great_size (by simpa using h.2 x hx)⟩
theorem lgreat_c (a b : Pu) (ts : List KT) (t : Tm) (hl : ts.length < 2^40) (hts : ∀ x ∈ ts, tsize x.2 < 2^40) (hN : tsize t < 2^40) : FCall Tryz.prog G 12 [.pu (wdP a b ts), .pu (tmc 0 t)] (bv (wgreatM ts t)) := by
 have hA : ∃ r : Option Nat, r.isSome = ts.any (fun x => greatM x.2) ∧ AnyC Tryz.prog G 82 [] [] [] (ts.map ktP) [] r [] := by
  have := AnyC.state (P := Tryz.prog) (G := G) (f := 82) (first := []) (captured := []) (HR := []) ktP (fun c a => (greatM a.2, c)) (fun _ => []) (fun _ => True) (fun _ => rfl) ts (fun a ha c _ => ⟨lgreat1_c a (hts a ha), fun _ => trivial⟩) 0 trivial
  rw [anyS_pure (fun a : KT => greatM a.2)] at this
  obtain ⟨r, h1, h2⟩ := this
  exact ⟨r, h1, h2⟩
 obtain ⟨r, hr, hA⟩ := hA
 refine FCall.of_tri tbl 18 Tryz.func12 rfl rfl rfl fun w0 M ρ0 D0 => ?_
 refine yR ?_;refine s_box SS 2 ?_;refine s_box SS 3 ?_;refine yB ?_;refine e_seqN [2, 3] ?_;refine Y14 ?_;refine Y24 ?_;refine Y63 ?_;refine s_gg zG (v_callD (fun _ => great_c t hN)) ?_;refine yO ?_;refine Y11 ?_;refine s_gg zG (v_callD (fun _ => conKt_d (lo := 0) (fV 82) (by rw [List.length_map]; omega) hA)) ?_;refine Y70 ?_;exact Tri.ret ⟨.inr rfl, ret1 rfl resV_tmp (bv_imp (by rw [hr, List.length_map]; rfl))⟩
abbrev kdN : Pu := .sl 0 130 []
abbrev kaN : Pu := .sl 0 136 []
theorem ownWorld_c (ts : List KT) (hl : ts.length < 2^30) (hts : ∀ x ∈ ts, tsize x.2 < 2^30) : FCall Tryz.prog G 14 [.pu (wdP kdN kaN ts)] (.pu (wdP kdN kaN ts)) := by
 refine FCall.of_tri tbl 68 Tryz.func14 rfl rfl rfl fun w0 M ρ0 D0 => ?_
 refine yR ?_;refine s_box SS 1 ?_;refine s_alloc SS 2 ?_;refine e_seqN [1, 2] ?_;refine yR ?_;refine s_alloc SS 3 ?_;refine e_seqN [3] ?_;refine Y73 ?_;refine Tri.block (Tri.loopW (σ := Nat) (fun i => ⟨[(1, .ptr 1 [] 26), (2, .ptr 2 [] 26), (3, .ptr 3 [] 26), (11, .pu (.sl 0 130 [])), (12, iv .i64 0), (13, iv .i64 0)], [(1, .var 26 (.pu (wdP kdN kaN ts))), (2, .var 26 (.agg 26 [.nilc, .nilc, .nilc])), (3, .var 26 (.agg 26 [.nilc, .nilc, .nilc]))]⟩) (fun i => 1) 0 ?_ ?_ (fun i => ?_))
 ·exact zW
 ·exact zW
 refine Y39 ?_;refine Tri.cond rfl (fun h0 => ?_) (fun h0 => ?_)
 ·exfalso; simp at h0
 ·skip
  refine Tri.exit ?_;refine Y73 ?_;refine Tri.block (Tri.loopW (σ := Nat) (fun i => ⟨[(1, .ptr 1 [] 26), (2, .ptr 2 [] 26), (3, .ptr 3 [] 26), (30, .pu (.sl 0 136 [])), (31, iv .i64 0), (32, iv .i64 0)], [(1, .var 26 (.pu (wdP kdN kaN ts))), (2, .var 26 (.agg 26 [.nilc, .nilc, .nilc])), (3, .var 26 (.agg 26 [.nilc, .nilc, .nilc]))]⟩) (fun i => 1) 0 ?_ ?_ (fun i => ?_))
  ·exact zW
  ·exact zW
  refine Y39 ?_;refine Tri.cond rfl (fun h1 => ?_) (fun h1 => ?_)
  ·exfalso; simp at h1
  ·skip
   refine Tri.exit ?_;refine Y73 ?_;refine Tri.block (Tri.loopW (σ := Nat) (fun i => ⟨[(1, .ptr 1 [] 26), (2, .ptr 2 [] 26), (3, .ptr 3 [] 26), (49, .pu (.sl 0 116 (ts.map ktP))), (50, iv .i64 (ts.map ktP).length), (51, iv .i64 i)], [(2, .var 26 (.agg 26 [.nilc, .nilc, .nilc])), (3, .var 26 (.agg 26 [.nilc, .nilc, .ow 0 116 ((ts.take i).map ktP)]))]⟩) (fun i => ts.length - i) 0 ?_ ?_ (fun i => ?_))
   ·repeat (first | exact .nil | refine .cons rfl (by first | exact .refl | (focus ((repeat constructor); done)) | (exact .var (.agg (.cons .refl (.cons .refl (.cons .nilcOw .nil)))))) ?_)
   ·repeat (first | exact .nil | refine .cons rfl (by first | exact .refl | (focus ((repeat constructor); done)) | (exact .var (.agg (.cons .refl (.cons .refl (.cons .nilcOw .nil)))))) ?_)
   refine Y39 ?_;refine Tri.cond rfl (fun h2 => ?_) (fun h2 => ?_)
   ·skip
    have hi : i < ts.length := by simpa using h2
    have hmap : (ts.take (i + 1)).map ktP = (ts.take i).map ktP ++ [ktP ts[i]] := by rw [List.take_succ_eq_append_getElem hi, List.map_append]; rfl
    refine Tri.skip ?_;refine tQ ?_;refine Tri.block ?_;refine yR ?_;refine s_val (v_index SS (h0 := by omega) (hp := kt_get hi)) ?_;refine yL ?_;refine s_alloc SS 9 ?_;refine yS ?_;refine e_seqN [9] ?_;refine Y14 ?_;refine Y49 ?_;refine s_val (v_callD (fun _ => kitOwnTerm_c _ ts[i].2 (Nat.le_refl _) (hts _ (List.getElem_mem hi)))) ?_;refine yP ?_;refine yZ ?_;refine s_app2 3 [2] ?_ ?_
    ·simp; omega
    refine Y67 ?_;refine Y30 ?_
    refine ⟨i + 1, by omega, le_of ?_ ?_⟩
    ·repeat (first | exact SubE.nil | refine SubE.cons rfl (by first | rfl | (rw [wrap64 (by omega) (by omega)]; rfl) | (rw [hmap]; rfl)) ?_)
    ·repeat (first | exact SubH.nil | refine SubH.cons rfl (by first | rfl | (rw [wrap64 (by omega) (by omega)]; rfl) | (rw [hmap]; rfl)) ?_)
   ·skip
    have hi : ts.length ≤ i := by simpa using h2
    rw [List.take_of_length_le hi];refine Tri.exit ?_;refine Y64 ?_;exact Tri.ret ⟨.inr rfl, ret1 rfl resV_cell (ToPu.imp (by repeat constructor))⟩
end Go.Proofs.YtkcgkignhpepkaaGreatDoor

/- Worlds that are the same. -/
namespace Go.Proofs.YtkcgkignhpepkaaGreatDoor
open Go Hs
variable {G : List (Nat × TypeId × Pu)}
theorem eqfKd_c (f : FuncId) : FCall Tryz.prog G 100 [.pu kdN, .pu kdN, fV f] (bv true) := by
 refine FCall.of_tri tbl 32 Tryz.func100 rfl rfl rfl fun w0 M ρ0 D0 => ?_
 refine Y48 ?_;refine yC ?_;refine yM ?_;refine Y31 ?_;refine Tri.cond rfl (fun h0 => ?_) (fun h0 => ?_)
 ·exfalso; simp at h0
 ·skip
  refine Tri.skip ?_;refine Y1 ?_;refine Y36 ?_;refine Tri.block (Tri.loopW (σ := Nat) (fun i => ⟨[(15, .pu kdN), (16, iv .i64 0), (17, iv .i64 0)], []⟩) (fun i => 1) 0 ?_ ?_ (fun i => ?_))
  ·exact zW
  ·exact zW
  refine Y39 ?_;refine Tri.cond rfl (fun h1 => ?_) (fun h1 => ?_)
  ·exfalso; simp at h1
  ·skip
   refine Tri.exit ?_;refine Y8 ?_;exact Tri.ret ⟨.inr rfl, ret1 rfl resV_tmp (ToPu.imp (by repeat constructor))⟩
theorem eqfKa_c (f : FuncId) : FCall Tryz.prog G 103 [.pu kaN, .pu kaN, fV f] (bv true) := by
 refine FCall.of_tri tbl 32 Tryz.func103 rfl rfl rfl fun w0 M ρ0 D0 => ?_
 refine Y48 ?_;refine yC ?_;refine yM ?_;refine Y31 ?_;refine Tri.cond rfl (fun h0 => ?_) (fun h0 => ?_)
 ·exfalso; simp at h0
 ·skip
  refine Tri.skip ?_;refine Y1 ?_;refine Y36 ?_;refine Tri.block (Tri.loopW (σ := Nat) (fun i => ⟨[(15, .pu kaN), (16, iv .i64 0), (17, iv .i64 0)], []⟩) (fun i => 1) 0 ?_ ?_ (fun i => ?_))
  ·exact zW
  ·exact zW
  refine Y39 ?_;refine Tri.cond rfl (fun h1 => ?_) (fun h1 => ?_)
  ·exfalso; simp at h1
  ·skip
   refine Tri.exit ?_;refine Y8 ?_;exact Tri.ret ⟨.inr rfl, ret1 rfl resV_tmp (ToPu.imp (by repeat constructor))⟩
theorem eqfKt_c (f : FuncId) (he : entersB Tryz.prog f = true) (φ : KT → KT → Bool) (l m : List KT) (hl : l.length < 2^40) (hm : m.length < 2^40) (h : ∀ i (h1 : i < l.length) (h2 : i < m.length), FCall Tryz.prog G f [.pu (ktP l[i]), .pu (ktP m[i])] (bv (φ l[i] m[i]))) :
  FCall Tryz.prog G 106 [.pu (.sl 0 116 (l.map ktP)), .pu (.sl 0 116 (m.map ktP)), fV f] (bv (eqLM φ l m)) := by
 refine FCall.of_tri tbl 32 Tryz.func106 rfl rfl rfl fun w0 M ρ0 D0 => ?_
 refine Y48 ?_;refine yC ?_;refine yM ?_;refine Y31 ?_;refine Tri.cond rfl (fun h0 => ?_) (fun h0 => ?_)
 ·skip
  have hf : eqLM φ l m = false := eqLM_len (by simp at h0; omega)
  refine Y8 ?_;exact Tri.ret ⟨.inr rfl, ret1 rfl resV_tmp (bv_imp hf.symm)⟩
 ·skip
  have hlm : l.length = m.length := by simp at h0; omega
  refine Tri.skip ?_;refine Y1 ?_;refine Y36 ?_;refine Tri.block (Tri.loopW (σ := {i : Nat // eqLM φ (l.take i) (m.take i) = true}) (fun i => ⟨[(1, .pu (.sl 0 116 (m.map ktP))), (2, fV f), (15, .pu (.sl 0 116 (l.map ktP))), (16, iv .i64 (l.map ktP).length), (17, iv .i64 i.1)], []⟩) (fun i => l.length - i.1) ⟨0, by simp [eqLM]⟩ ?_ ?_ (fun i => ?_))
  ·exact zW
  ·exact zW
  refine Y39 ?_;refine Tri.cond rfl (fun h1 => ?_) (fun h1 => ?_)
  ·skip
   have hi : i.1 < l.length := by simpa using h1
   have hi2 : i.1 < m.length := by omega
   have htk := eqLM_take (φ := φ) hi hi2
   rw [i.2, Bool.true_and] at htk
   refine Tri.skip ?_;refine tQ ?_;refine Tri.block ?_;refine Y1 ?_;refine s_val (v_index SS (h0 := by omega) (hp := kt_get hi)) ?_;refine yL ?_;refine s_alloc SS 8 ?_;refine yA ?_;refine yS ?_;refine e_seqN [8] ?_;refine Y20 ?_;refine s_val (v_index SS (h0 := by omega) (hp := kt_get hi2)) ?_;refine yL ?_;refine s_alloc SS 9 ?_;refine yS ?_;refine e_seqN [9] ?_;refine Y1 ?_;refine Y68 ?_;refine s_val (v_callO (fun _ => h i.1 hi hi2) (he := he)) ?_;refine Y74 ?_;refine Tri.cond rfl (fun h2 => ?_) (fun h2 => ?_)
   ·skip
    have hf : eqLM φ l m = false := eqLM_stop (i := i.1 + 1) (by rw [htk]; simpa using h2)
    refine Y8 ?_;exact Tri.ret ⟨.inr rfl, ret1 rfl resV_tmp (bv_imp hf.symm)⟩
   ·skip
    have hnext : eqLM φ (l.take (i.1 + 1)) (m.take (i.1 + 1)) = true := by rw [htk]; simpa using h2
    refine Tri.skip ?_;refine Y30 ?_
    refine ⟨⟨i.1 + 1, hnext⟩, by show l.length - (i.1 + 1) < l.length - i.1; omega, le_of ?_ ?_⟩
    ·exact zE
    ·exact zH
  ·skip
   have hf : eqLM φ l m = true := by
    have := i.2
    rwa [List.take_of_length_le (by simp at h1; omega), List.take_of_length_le (by simp at h1; omega)] at this
   refine Tri.exit ?_;refine Y8 ?_;exact Tri.ret ⟨.inr rfl, ret1 rfl resV_tmp (bv_imp hf.symm)⟩
def sameK (x y : KT) : Bool := x.1 == y.1 && sameT x.2 y.2
theorem kt_wf {D : Nat → Nat → Prop} {w : World} {x : KT} {v : List Value} (h : PR Tryz.prog D w (ktP x) v) : x.1.length = 32 := by
 obtain ⟨_, h⟩ := PR_agg h
 obtain ⟨⟨_, h⟩, _⟩ := PRs_cons h
 exact ref_len h
theorem sameK_c (x y : KT) (hx : tsize x.2 < 2^40) (hy : tsize y.2 < 2^40) : FCall Tryz.prog G 107 [.pu (ktP x), .pu (ktP y)] (bv (sameK x y)) := by
 refine FCall.of_tri tbl 17 Tryz.func107 rfl rfl rfl fun w0 M ρ0 D0 => ?_
 refine Tri.fact (i := 0) rfl (fun D w x h => kt_wf h) (fun hr => ?_);refine Tri.fact (i := 1) rfl (fun D w x h => kt_wf h) (fun hr' => ?_);refine yR ?_;refine s_box SS 2 ?_;refine s_box SS 3 ?_;refine yB ?_;refine e_seqN [2, 3] ?_;refine Y13 ?_;refine Y4 ?_;refine s_val (v_bin SS (h := bin_eqS (hr.trans hr'.symm))) ?_;refine Y25 ?_;refine s_gg zG (v_callD (fun _ => sameT_c _ x.2 y.2 (Nat.le_refl _) hx hy)) ?_;refine yN ?_;refine Y2 ?_;exact Tri.ret ⟨.inr rfl, ret1 rfl resV_tmp (VImp.refl _)⟩
theorem eqLM_refl {α : Type} {φ : α → α → Bool} : ∀ {l : List α}, (∀ a ∈ l, φ a a = true) → eqLM φ l l = true
 | [], _ => rfl
 | a :: l, h => by simp only [eqLM, h a (by simp), Bool.true_and]; exact eqLM_refl fun x hx => h x (by simp [hx])
def sameW (ts us : List KT) : Bool := eqLM sameK ts us
theorem sameW_c (ts us : List KT) (hl : ts.length < 2^40) (hm : us.length < 2^40) (hts : ∀ x ∈ ts, tsize x.2 < 2^40) (hus : ∀ x ∈ us, tsize x.2 < 2^40) : FCall Tryz.prog G 24 [.pu (wdP kdN kaN ts), .pu (wdP kdN kaN us)] (bv (sameW ts us)) := by
 refine FCall.of_tri tbl 24 Tryz.func24 rfl rfl rfl fun w0 M ρ0 D0 => ?_
 refine yR ?_;refine s_box SS 2 ?_;refine s_box SS 3 ?_;refine yB ?_;refine e_seqN [2, 3] ?_;refine Y14 ?_;refine Y7 ?_;refine s_val (v_callD (fun _ => eqfKd_c 101)) ?_;refine Y25 ?_;refine s_gg zG (v_callD (fun _ => eqfKa_c 104)) ?_;refine yN ?_;refine Y25 ?_;refine s_gg zG (v_callD (fun _ => eqfKt_c 107 (by kernel_rfl) sameK ts us hl hm (fun i h1 h2 => sameK_c _ _ (hts _ (List.getElem_mem h1)) (hus _ (List.getElem_mem h2))))) ?_;refine yN ?_;refine Y2 ?_;exact Tri.ret ⟨.inr rfl, ret1 rfl resV_tmp (VImp.refl _)⟩
end Go.Proofs.YtkcgkignhpepkaaGreatDoor

/- Memory that may be spoilt: what it is, and that it stays so. -/
namespace Go.Proofs.YtkcgkignhpepkaaGreatDoor
open Go Hs
def el (c : Array Value) (k i : Nat) : List Value := (c.toList.drop (i * k)).take k
theorem el_get (c : Array Value) (k i j : Nat) : (el c k i)[j]? = if j < k then c[i * k + j]? else none := by
 simp only [el, List.getElem?_take, List.getElem?_drop, Array.getElem?_toList]
theorem el_len {c : Array Value} {k i : Nat} (h : (i + 1) * k ≤ c.size) : (el c k i).length = k := by
 simp only [el, List.length_take, List.length_drop, Array.length_toList]
 rw [Nat.succ_mul] at h
 omega
theorem el_splice {c : Array Value} {k i0 i : Nat} {v : List Value} (hv : v.length = k) (h : (i0 + 1) * k ≤ c.size) :
  el (c.toList.take (i0 * k) ++ v ++ c.toList.drop (i0 * k + k)).toArray k i = if i = i0 then v else el c k i := by
 rw [Nat.succ_mul] at h
 have hl : (c.toList.take (i0 * k)).length = i0 * k := by simp; omega
 have hL : ∀ p : Nat, (c.toList.take (i0 * k) ++ v ++ c.toList.drop (i0 * k + k))[p]? = if p < i0 * k then c[p]? else if p < i0 * k + k then v[p - i0 * k]? else c[p]? := fun p => by
  rw [List.append_assoc]
  split
  ·rename_i hp
   rw [List.getElem?_append_left (by omega), List.getElem?_take, if_pos hp, Array.getElem?_toList]
  ·rename_i hp
   rw [List.getElem?_append_right (by omega), hl]
   split
   ·rw [List.getElem?_append_left (by omega)]
   ·rw [List.getElem?_append_right (by omega), List.getElem?_drop, Array.getElem?_toList, hv]
    congr 1
    omega
 refine List.ext_getElem? fun j => ?_
 rw [el_get]
 simp only [List.getElem?_toArray, hL]
 by_cases hj : j < k
 ·rw [if_pos hj]
  rcases Nat.lt_trichotomy i i0 with hi | rfl | hi
  ·have h1 : (i + 1) * k ≤ i0 * k := Nat.mul_le_mul_right k hi
   rw [Nat.succ_mul] at h1
   rw [if_pos (by omega), if_neg (by omega), el_get, if_pos hj]
  ·rw [if_neg (by omega), if_pos (by omega), if_pos rfl]
   congr 1
   omega
  ·have h1 : (i0 + 1) * k ≤ i * k := Nat.mul_le_mul_right k hi
   rw [Nat.succ_mul] at h1
   rw [if_neg (by omega), if_neg (by omega), if_neg (by omega), el_get, if_pos hj]
 ·rw [if_neg hj]
  split
  ·exact (List.getElem?_eq_none (by omega)).symm
  ·rw [el_get, if_neg hj]
section
variable (m hi : Nat) (w : World)
def softS (E : TypeId) (k : Nat) (S : List Value → Prop) (x : Value) : Prop :=
 (∃ a cap, x = .slice a 0 cap) ∨ ∃ b n cap c, x = .slice (some ⟨b, 0, none⟩) n cap ∧ n < 1099511627776 ∧ m ≤ b ∧ b < hi ∧ w.heap[b]? = some (.cells c E (0, 0)) ∧ n * k ≤ c.size ∧ ∀ i, i < n → S (el c k i)
def softP : Nat → List Value → Prop
 | 0, _ => False
 | n + 1, l => ∃ pre s, l = pre ++ [s] ∧ pre.length = 34 ∧ softS m hi w 104 35 (softP n) s
def softC (n : Nat) (S : List Value → Prop) (l : List Value) : Prop := ∃ lp lb, l = lp ++ lb ∧ lp.length = 35 ∧ softP m hi w n lp ∧ S lb
def softT : Nat → List Value → Prop
 | 0, _ => False
 | n + 1, l => ∃ pre s1 s2, l = pre ++ [s1, s2] ∧ pre.length = 34 ∧ softS m hi w 32 36 (softT n) s1 ∧ softS m hi w 106 71 (softC m hi w n (softT n)) s2
end
def zeroP (l : List Value) : Prop := ∃ pre a cap, l = pre ++ [.slice a 0 cap] ∧ pre.length = 34
def zeroT (l : List Value) : Prop := ∃ pre a1 c1 a2 c2, l = pre ++ [.slice a1 0 c1, .slice a2 0 c2] ∧ pre.length = 34
def zeroC (l : List Value) : Prop := ∃ lp lb, l = lp ++ lb ∧ zeroP lp ∧ zeroT lb
def Wore1 (E : TypeId) (k : Nat) (Z : List Value → Prop) (m hi : Nat) (w w' : World) : Prop := ∀ (b : Nat) (c : Array Value), m ≤ b → b < hi → w.heap[b]? = some (.cells c E (0, 0)) →
 ∃ c', w'.heap[b]? = some (.cells c' E (0, 0)) ∧ c'.size = c.size ∧ ∀ i, (i + 1) * k ≤ c.size → el c' k i = el c k i ∨ Z (el c' k i)
structure Wore (m hi : Nat) (w w' : World) : Prop where
 pt : Wore1 104 35 zeroP m hi w w'
 tm : Wore1 32 36 zeroT m hi w w'
 cs : Wore1 106 71 zeroC m hi w w'
section
variable {E : TypeId} {k : Nat} {Z : List Value → Prop} {m hi : Nat} {w w' w2 : World}
theorem Wore1.same (h : ∀ b : Nat, m ≤ b → b < hi → w'.heap[b]? = w.heap[b]?) : Wore1 E k Z m hi w w' := fun b c h1 h2 hb => ⟨c, (h b h1 h2).trans hb, rfl, fun _ _ => .inl rfl⟩
theorem Wore1.trans (h : Wore1 E k Z m hi w w') (h' : Wore1 E k Z m hi w' w2) : Wore1 E k Z m hi w w2 := fun b c h1 h2 hb => by
 obtain ⟨c1, e1, e2, e3⟩ := h b c h1 h2 hb
 obtain ⟨c2, f1, f2, f3⟩ := h' b c1 h1 h2 e1
 refine ⟨c2, f1, f2.trans e2, fun i hik => ?_⟩
 rcases f3 i (by omega) with g | g
 ·rcases e3 i hik with g' | g'
  ·exact .inl (g.trans g')
  ·exact .inr (g ▸ g')
 ·exact .inr g
theorem Wore.same (h : ∀ b : Nat, m ≤ b → b < hi → w'.heap[b]? = w.heap[b]?) : Wore m hi w w' := ⟨.same h, .same h, .same h⟩
theorem Wore.refl : Wore m hi w w := .same fun _ _ _ => rfl
theorem Wore.trans (h : Wore m hi w w') (h' : Wore m hi w' w2) : Wore m hi w w2 := ⟨h.pt.trans h'.pt, h.tm.trans h'.tm, h.cs.trans h'.cs⟩
theorem Wore.grew (g : Grew w w') (hh : hi ≤ w.heap.size) : Wore m hi w w' := .same fun b _ h2 => g.block b (by omega)
theorem Wore1.set {b i0 : Nat} {c : Array Value} {E' : TypeId} {k' : Nat} {v : List Value} {Z' : List Value → Prop} (hb : w.heap[b]? = some (.cells c E (0, 0))) (hv : v.length = k) (hf : (i0 + 1) * k ≤ c.size) (hz : Z v) (hE : E' = E → k' = k) (hZ : E' = E → ∀ l, Z l → Z' l) :
  Wore1 E' k' Z' m hi w (w.setRow b (c.toList.take (i0 * k) ++ v ++ c.toList.drop (i0 * k + k)).toArray) := fun b' c1 h1 h2 hb' => by
 by_cases e : b' = b
 ·subst e
  rw [hb] at hb'
  simp at hb'
  obtain ⟨rfl, rfl⟩ := hb'
  obtain rfl := hE rfl
  refine ⟨_, setRow_heap w b' c _ E (0, 0) hb, ?_, fun i hi' => ?_⟩
  ·rw [Nat.succ_mul] at hf
   simp
   omega
  ·rw [el_splice hv hf]
   split
   ·exact .inr (hZ rfl _ hz)
   ·exact .inl rfl
 ·exact ⟨c1, (setRow_ne w b _ e).trans hb', rfl, fun _ _ => .inl rfl⟩
theorem softS_mono {S S' : List Value → Prop} (W : Wore1 E k Z m hi w w') (h1 : ∀ l, S l → S' l) (h2 : ∀ l l0, S l0 → Z l → S' l) {x : Value} (h : softS m hi w E k S x) : softS m hi w' E k S' x := by
 rcases h with h | ⟨b, n, cap, c, rfl, e0, e1, e2, e3, e4, e5⟩
 ·exact .inl h
 ·obtain ⟨c', f1, f2, f3⟩ := W b c e1 e2 e3
  refine .inr ⟨b, n, cap, c', rfl, e0, e1, e2, f1, by omega, fun i hin => ?_⟩
  rcases f3 i (Nat.le_trans (Nat.mul_le_mul_right k hin) e4) with g | g
  ·rw [g]; exact h1 _ (e5 i hin)
  ·exact h2 _ _ (e5 i hin) g
theorem softS_view {S : List Value → Prop} {x : Value} (h : softS m hi w E k S x) : ∃ a n cap, x = .slice a n cap ∧ n < 1099511627776 ∧ ∀ i, i < n → ∃ b c, a = some ⟨b, 0, none⟩ ∧ m ≤ b ∧ b < hi ∧ w.heap[b]? = some (.cells c E (0, 0)) ∧ (i + 1) * k ≤ c.size ∧ S (el c k i) := by
 rcases h with ⟨a, cap, rfl⟩ | ⟨b, n, cap, c, rfl, e0, e1, e2, e3, e4, e5⟩
 ·exact ⟨a, 0, cap, rfl, by omega, fun i h => by omega⟩
 ·exact ⟨_, n, cap, rfl, e0, fun i h => ⟨b, c, rfl, e1, e2, e3, Nat.le_trans (Nat.mul_le_mul_right k h) e4, e5 i h⟩⟩
theorem softP_mono (W : Wore m hi w w') : ∀ (n : Nat) (l : List Value), softP m hi w n l → softP m hi w' n l
 | 0, _, h => h
 | n + 1, l, ⟨pre, s, e1, e2, e3⟩ => ⟨pre, s, e1, e2, softS_mono W.pt (softP_mono W n) (fun l l0 h0 hz => by
   cases n with
   | zero => exact h0.elim
   | succ n =>
    obtain ⟨pre, a, cap, rfl, hp⟩ := hz
    exact ⟨pre, _, rfl, hp, .inl ⟨a, cap, rfl⟩⟩) e3⟩
theorem zero_softP {n : Nat} {l l0 : List Value} (h0 : softP m hi w n l0) (hz : zeroP l) : softP m hi w' n l := by
 cases n with
 | zero => exact h0.elim
 | succ n =>
  obtain ⟨pre, a, cap, rfl, hp⟩ := hz
  exact ⟨pre, _, rfl, hp, .inl ⟨a, cap, rfl⟩⟩
theorem zero_softT {n : Nat} {l l0 : List Value} (h0 : softT m hi w n l0) (hz : zeroT l) : softT m hi w' n l := by
 cases n with
 | zero => exact h0.elim
 | succ n =>
  obtain ⟨pre, a, cap, a2, cap2, rfl, hp⟩ := hz
  exact ⟨pre, _, _, rfl, hp, .inl ⟨a, cap, rfl⟩, .inl ⟨a2, cap2, rfl⟩⟩
theorem softT_mono (W : Wore m hi w w') : ∀ (n : Nat) (l : List Value), softT m hi w n l → softT m hi w' n l
 | 0, _, h => h
 | n + 1, l, ⟨pre, s1, s2, e1, e2, e3, e4⟩ => ⟨pre, s1, s2, e1, e2, softS_mono W.tm (softT_mono W n) (fun l l0 h0 hz => zero_softT h0 hz) e3,
   softS_mono W.cs (fun l ⟨lp, lb, f1, f2, f3, f4⟩ => ⟨lp, lb, f1, f2, softP_mono W n lp f3, softT_mono W n lb f4⟩) (fun l l0 ⟨lp, lb, f1, f2, f3, f4⟩ ⟨zp, zb, g1, g2, g3⟩ => ⟨zp, zb, g1, by
    obtain ⟨pre, a, cap, rfl, hp⟩ := g2
    simp [hp], zero_softP f3 g2, zero_softT f4 g3⟩) e4⟩
end
end Go.Proofs.YtkcgkignhpepkaaGreatDoor

/- Fresh trees may be spoilt. -/
namespace Go.Proofs.YtkcgkignhpepkaaGreatDoor
open Go Hs
section
variable {D : Nat → Nat → Prop} {w : World} {m hi : Nat}
theorem prs_el {k : Nat} {E : TypeId} : ∀ {ps : List Pu} {x : List Value}, PRs Tryz.prog D w (List.replicate ps.length (k, E)) ps x → x.length = ps.length * k ∧ ∀ (i : Nat) p, ps[i]? = some p → PR Tryz.prog D w p ((x.drop (i * k)).take k)
 | [], _, .nil => ⟨by simp, fun i p h => by simp at h⟩
 | p :: ps, _, .cons (x := x) (y := y) hp hs _ h => by
  obtain ⟨h1, h2⟩ := prs_el (ps := ps) h
  refine ⟨by simp [h1, hs, Nat.succ_mul]; omega, fun i q hq => ?_⟩
  cases i with
  | zero =>
   simp at hq
   subst hq
   simp [← hs]
   exact hp
  | succ i =>
   simp at hq
   have := h2 i q hq
   rw [Nat.succ_mul, List.drop_append, List.drop_eq_nil_of_le (by omega), List.nil_append, hs, Nat.add_sub_cancel];exact this
theorem softS_of {E : TypeId} {k : Nat} {S : List Value → Prop} (hm : 0 < m) (hh : w.heap.size ≤ hi) (hk : Tryz.prog.cellsOf E = k) {ps : List Pu} {s : Value} (h : PR Tryz.prog D w (.sl m E ps) [s]) (hln : ps.length < 1099511627776) (hS : ∀ (i : Nat) p l, ps[i]? = some p → PR Tryz.prog D w p l → S l) : softS m hi w E k S s := by
 subst hk
 cases h with
 | sl0 => exact .inl ⟨_, _, rfl⟩
 | @sl _ _ _ b o cap x hn hcap h hx hlo =>
  rcases hlo with rfl | ⟨h1, rfl, c, h2⟩
  ·omega
  obtain ⟨g1, g2⟩ := prs_el h
  have hc : ∀ j v, x[j]? = some v → c[j]? = some v := fun j v hj => by
   have := (hx j v hj).1
   rw [Nat.zero_add, cell_of_cells h2] at this
   exact this
  have hsz : ps.length * Tryz.prog.cellsOf E ≤ c.size := by
   refine Nat.le_of_not_lt fun hlt => ?_
   have hj : c.size < x.length := by omega
   have := hc c.size x[c.size] (List.getElem?_eq_getElem hj)
   simp at this
  refine .inr ⟨b, ps.length, cap, c, rfl, hln, h1, Nat.lt_of_lt_of_le (heap_lt h2) hh, h2, hsz, fun i hin => ?_⟩
  have := hS i ps[i] _ (List.getElem?_eq_getElem hin) (g2 i ps[i] (List.getElem?_eq_getElem hin))
  have e : el c (Tryz.prog.cellsOf E) i = (x.drop (i * Tryz.prog.cellsOf E)).take (Tryz.prog.cellsOf E) := by
   have hle : (i + 1) * Tryz.prog.cellsOf E ≤ ps.length * Tryz.prog.cellsOf E := Nat.mul_le_mul_right _ hin
   rw [Nat.succ_mul] at hle
   refine List.ext_getElem? fun j => ?_
   rw [el_get, List.getElem?_take, List.getElem?_drop]
   split
   ·have hj : i * Tryz.prog.cellsOf E + j < x.length := by omega
    rw [List.getElem?_eq_getElem hj];exact hc _ _ (List.getElem?_eq_getElem hj)
   ·rfl
  rw [e];exact this
theorem sl_one {E : TypeId} {lo : Nat} {ps : List Pu} {l : List Value} (h : PR Tryz.prog D w (.sl lo E ps) l) : ∃ s, l = [s] := by
 cases h with
 | sl0 => exact ⟨_, rfl⟩
 | sl => exact ⟨_, rfl⟩
theorem compsP : comps Tryz.prog 104 = some [(1, 3), (1, 3), (32, 28), (1, 102)] := by kernel_rfl
theorem compsT : comps Tryz.prog 32 = some [(1, 3), (1, 3), (32, 28), (1, 29), (1, 30)] := by kernel_rfl
theorem compsC : comps Tryz.prog 106 = some [(35, 104), (36, 32)] := by kernel_rfl
theorem softP_of (hm : 0 < m) (hh : w.heap.size ≤ hi) : ∀ (N : Nat) (p : Pat) (l : List Value), psize p ≤ N → N < 1099511627776 → PR Tryz.prog D w (patc m p) l → softP m hi w N l := by
 intro N
 induction N with
 | zero => intro p l h; cases p; simp [psize] at h
 | succ N ih =>
  rintro ⟨k, n, r, ks⟩ l hN hb h
  simp only [psize] at hN
  unfold patc at h
  cases h with
  | agg hc h =>
   rw [compsP] at hc
   simp only [Option.some.injEq] at hc
   subst hc
   cases h with | @cons _ _ _ _ _ x0 _ _ s0 _ h =>
   cases h with | @cons _ _ _ _ _ x1 _ _ s1 _ h =>
   cases h with | @cons _ _ _ _ _ x2 _ _ s2 _ h =>
   cases h with | @cons _ _ _ _ _ x3 _ h3 s3 _ h =>
   cases h
   obtain ⟨s, rfl⟩ := sl_one h3
   refine ⟨x0 ++ x1 ++ x2, s, by simp, by simp [s0, s1, s2], softS_of hm hh (by kernel_rfl) h3 (by rw [pats_length]; have := length_psizeL ks; omega) fun i p l hi hp => ?_⟩
   rw [pats_eq, List.getElem?_map] at hi
   cases hk : ks[i]? with
   | none => simp [hk] at hi
   | some q =>
    simp [hk] at hi
    subst hi
    obtain ⟨hlt, e⟩ := List.getElem?_eq_some_iff.1 hk
    have := psizeL_get hlt
    rw [e] at this
    exact ih q l (by omega) (by omega) hp
theorem softT_of (hm : 0 < m) (hh : w.heap.size ≤ hi) : ∀ (N : Nat) (t : Tm) (l : List Value), tsize t ≤ N → N < 1099511627776 → PR Tryz.prog D w (tmc m t) l → softT m hi w N l := by
 intro N
 induction N with
 | zero => intro p l h; cases p; simp [tsize] at h
 | succ N ih =>
  rintro ⟨k, n, r, ks, cs⟩ l hN hb h
  simp only [tsize] at hN
  unfold tmc at h
  cases h with
  | agg hc h =>
   rw [compsT] at hc
   simp only [Option.some.injEq] at hc
   subst hc
   cases h with | @cons _ _ _ _ _ x0 _ _ s0 _ h =>
   cases h with | @cons _ _ _ _ _ x1 _ _ s1 _ h =>
   cases h with | @cons _ _ _ _ _ x2 _ _ s2 _ h =>
   cases h with | @cons _ _ _ _ _ x3 _ h3 s3 _ h =>
   cases h with | @cons _ _ _ _ _ x4 _ h4 s4 _ h =>
   cases h
   obtain ⟨s, rfl⟩ := sl_one h3
   obtain ⟨s', rfl⟩ := sl_one h4
   refine ⟨x0 ++ x1 ++ x2, s, s', by simp, by simp [s0, s1, s2], softS_of hm hh (by kernel_rfl) h3 (by rw [tms_length]; have := length_tsizeL ks; omega) fun i p l hi hp => ?_, softS_of hm hh (by kernel_rfl) h4 (by rw [css_length]; have := length_csizeL cs; omega) fun i p l hi hp => ?_⟩
   ·rw [tms_eq, List.getElem?_map] at hi
    cases hk : ks[i]? with
    | none => simp [hk] at hi
    | some q =>
     simp [hk] at hi
     subst hi
     obtain ⟨hlt, e⟩ := List.getElem?_eq_some_iff.1 hk
     have := tsizeL_get hlt
     rw [e] at this
     exact ih q l (by omega) (by omega) hp
   ·rw [css_eq, List.getElem?_map] at hi
    cases hk : cs[i]? with
    | none => simp [hk] at hi
    | some q =>
     simp [hk] at hi
     subst hi
     obtain ⟨hlt, e⟩ := List.getElem?_eq_some_iff.1 hk
     have := csizeL_get hlt
     rw [e] at this
     obtain ⟨p, t⟩ := q
     simp only [csize] at this
     unfold csec at hp
     cases hp with
     | agg hc hp =>
      rw [compsC] at hc
      simp only [Option.some.injEq] at hc
      subst hc
      cases hp with | @cons _ _ _ _ _ lp _ hp s0 _ h =>
      cases h with | @cons _ _ _ _ _ lb _ hq s1 _ h =>
      cases h
      exact ⟨lp, lb, by simp, s0, softP_of hm hh N p lp (by omega) (by omega) hp, ih t lb (by omega) (by omega) hq⟩
end
end Go.Proofs.YtkcgkignhpepkaaGreatDoor

/- SpoilTerm: it writes in what may be spoilt alone. -/
namespace Go.Proofs.YtkcgkignhpepkaaGreatDoor
open Go Hs
def nilSl : Value := .slice none 0 0
def zerP (k : Int) : List Value := [.int .i64 k, .int .i64 0] ++ List.replicate 32 (.int .u8 0) ++ [nilSl]
def zerT (k : Int) : List Value := [.int .i64 k, .int .i64 0] ++ List.replicate 32 (.int .u8 0) ++ [nilSl, nilSl]
def zerC : List Value := zerP 0 ++ zerT 0
theorem build_P (w : World) : (Instr.build 104 #[(0, .int .i64 98)]).run Tryz.prog w = .ok (.agg (zerP 98).toArray) w := by kernel_rfl
theorem build_T (w : World) : (Instr.build 32 #[(0, .int .i64 98)]).run Tryz.prog w = .ok (.agg (zerT 98).toArray) w := by kernel_rfl
theorem build_C (w : World) : (Instr.build 106 #[]).run Tryz.prog w = .ok (.agg zerC.toArray) w := by kernel_rfl
theorem zerP_zero (k : Int) : zeroP (zerP k) := ⟨[.int .i64 k, .int .i64 0] ++ List.replicate 32 (.int .u8 0), none, 0, rfl, by simp⟩
theorem zerT_zero (k : Int) : zeroT (zerT k) := ⟨[.int .i64 k, .int .i64 0] ++ List.replicate 32 (.int .u8 0), none, 0, none, 0, rfl, by simp⟩
theorem zerC_zero : zeroC zerC := ⟨_, _, rfl, zerP_zero 0, zerT_zero 0⟩
theorem el_cell {w : World} {b k i : Nat} {c : Array Value} {E : TypeId} (h : w.heap[b]? = some (.cells c E (0, 0))) : ∀ j v, (el c k i)[j]? = some v → w.cell? ⟨b, i * k + j, none⟩ = some v := fun j v hj => by
 rw [el_get] at hj
 rw [cell_of_cells h]
 split at hj
 ·exact hj
 ·cases hj
theorem Wore.tmSet {m hi : Nat} {w : World} {b i : Nat} {c : Array Value} {v : List Value} (hb : w.heap[b]? = some (.cells c 32 (0, 0))) (hv : v.length = 36) (hf : (i + 1) * 36 ≤ c.size) (hz : zeroT v) : Wore m hi w (w.setRow b (c.toList.take (i * 36) ++ v ++ c.toList.drop (i * 36 + 36)).toArray) :=
 ⟨Wore1.set hb hv hf hz (fun e => by cases e) (fun e => by cases e), Wore1.set hb hv hf hz (fun _ => rfl) (fun _ _ h => h), Wore1.set hb hv hf hz (fun e => by cases e) (fun e => by cases e)⟩
theorem Wore.csSet {m hi : Nat} {w : World} {b i : Nat} {c : Array Value} {v : List Value} (hb : w.heap[b]? = some (.cells c 106 (0, 0))) (hv : v.length = 71) (hf : (i + 1) * 71 ≤ c.size) (hz : zeroC v) : Wore m hi w (w.setRow b (c.toList.take (i * 71) ++ v ++ c.toList.drop (i * 71 + 71)).toArray) :=
 ⟨Wore1.set hb hv hf hz (fun e => by cases e) (fun e => by cases e), Wore1.set hb hv hf hz (fun e => by cases e) (fun e => by cases e), Wore1.set hb hv hf hz (fun _ => rfl) (fun _ _ h => h)⟩
theorem Wore.ptSet {m hi : Nat} {w : World} {b i : Nat} {c : Array Value} {v : List Value} (hb : w.heap[b]? = some (.cells c 104 (0, 0))) (hv : v.length = 35) (hf : (i + 1) * 35 ≤ c.size) (hz : zeroP v) : Wore m hi w (w.setRow b (c.toList.take (i * 35) ++ v ++ c.toList.drop (i * 35 + 35)).toArray) :=
 ⟨Wore1.set hb hv hf hz (fun _ => rfl) (fun _ _ h => h), Wore1.set hb hv hf hz (fun e => by cases e) (fun e => by cases e), Wore1.set hb hv hf hz (fun e => by cases e) (fun e => by cases e)⟩
theorem soft_tms {m hi n : Nat} {w w' : World} {x : Value} (W : Wore m hi w w') (h : softS m hi w 32 36 (softT m hi w n) x) : softS m hi w' 32 36 (softT m hi w' n) x := softS_mono W.tm (softT_mono W n) (fun _ _ h0 hz => zero_softT h0 hz) h
theorem soft_pts {m hi n : Nat} {w w' : World} {x : Value} (W : Wore m hi w w') (h : softS m hi w 104 35 (softP m hi w n) x) : softS m hi w' 104 35 (softP m hi w' n) x := softS_mono W.pt (softP_mono W n) (fun _ _ h0 hz => zero_softP h0 hz) h
theorem soft_css {m hi n : Nat} {w w' : World} {x : Value} (W : Wore m hi w w') (h : softS m hi w 106 71 (softC m hi w n (softT m hi w n)) x) : softS m hi w' 106 71 (softC m hi w' n (softT m hi w' n)) x :=
 softS_mono W.cs (fun _ ⟨lp, lb, f1, f2, f3, f4⟩ => ⟨lp, lb, f1, f2, softP_mono W n lp f3, softT_mono W n lb f4⟩) (fun _ _ ⟨_, _, _, _, f3, f4⟩ ⟨zp, zb, g1, g2, g3⟩ => ⟨zp, zb, g1, by
    obtain ⟨pre, a, cap, rfl, hp⟩ := g2
    simp [hp], zero_softP f3 g2, zero_softT f4 g3⟩) h
theorem spoil_c : ∀ (n m hi : Nat) (w : World) (l : List Value), softT m hi w n l → hi ≤ w.heap.size → Calls Tryz.prog 51 #[.agg l.toArray] w fun e w' => (∃ v, e = .returned v) ∧ Keep m hi w w' ∧ Wore m hi w w' := by
 intro n
 induction n with
 | zero => intro m hi w l h; exact h.elim
 | succ n ih =>
 rintro m hi w L ⟨pre, s1, s2, hL, hp, hs1, hs2⟩ hh
 obtain ⟨a1, n1, cap1, rfl, hn1, _⟩ := softS_view hs1
 obtain ⟨a2, n2, cap2, rfl, hn2, _⟩ := softS_view hs2
 obtain ⟨B, hB⟩ : ∃ B, B = w.heap.size := ⟨_, rfl⟩
 obtain ⟨w1, hw1⟩ : ∃ w1, w1 = w.alloc (.cells L.toArray 32) := ⟨_, rfl⟩
 have gr : Grew w w1 := by rw [hw1]; exact Grew.alloc w _
 have W1 : Wore m hi w w1 := Wore.grew gr hh
 have hsz1 : B < w1.heap.size := by rw [hw1, hB]; simp
 have hB1 : w1.heap[B]? = some (.cells L.toArray 32 (0, 0)) := by rw [hw1, hB]; exact alloc_heap_new w _
 have cells : ∀ {w2 : World}, Keep m hi w1 w2 → w2.cell? ⟨B, 0 + 34, none⟩ = some (.slice a1 n1 cap1) ∧ w2.cell? ⟨B, 0 + 35, none⟩ = some (.slice a2 n2 cap2) := fun {w2} k => by
  have hb := (k.block B hsz1 (by omega)).trans hB1
  rw [cell_of_cells hb, cell_of_cells hb]
  simp [hL, List.getElem?_append, hp]
 refine calls_of_rtri 64 Tryz.func51 rfl rfl [(0, .agg L.toArray)] (fun i v hv => ?_) ?_
 ·rw [get_cons] at hv
  split at hv
  ·rename_i e; subst e; simpa using hv
  ·cases hv
 repeat refine RTri.seq ?_
 refine RTri.region ?_;refine q_box rfl (by decide) ?_;refine RL.nil ?_;rw [show Value.cells (Value.agg L.toArray) = L.toArray from rfl, ← hw1, ← hB]
 have K0 := Keep.refl m hi w1
 repeat refine RTri.seq ?_
 refine RTri.region ?_;refine q_field tbl (off := 34) rfl (by kernel_rfl) (by decide) ?_;refine q_load1 tbl (cells K0).1 rfl (by kernel_rfl) (by decide) ?_;refine q_len (E := 32) rfl (by kernel_rfl) (by decide) ?_;refine q_move rfl (by decide) ?_;refine RL.nil ?_
 repeat refine RTri.seq ?_
 refine RTri.block ?_;refine RTri.loop (σ := Nat) (fun i env w2 => i ≤ n1 ∧ subE [(8, .int .i64 (i : Nat)), (7, .int .i64 n1), (1, .pointer (some ⟨B, 0, none⟩))] env ∧ Keep m hi w1 w2 ∧ Wore m hi w1 w2) (fun i => n1 - i) 0 ⟨Nat.zero_le _, ⟨rfl, rfl, rfl, trivial⟩, K0, Wore.refl⟩ ?_
 rintro i env w2 ⟨hi1, henv, Ki, Wi⟩
 refine RTri.less ?_ henv.get;clear henv env
 repeat refine RTri.seq ?_
 refine RTri.region ?_;refine q_lt tbl rfl rfl (by decide) ?_;refine RL.nil ?_
 repeat refine RTri.seq ?_
 refine RTri.cond rfl (fun hb => RTri.skip ?_) (fun hb => RTri.exit ?_)
 ·have hi' : i < n1 := of_decide_eq_true hb
  obtain ⟨a, n', cap', e, _, hv⟩ := softS_view (soft_tms (W1.trans Wi) hs1)
  simp only [Value.slice.injEq] at e
  obtain ⟨rfl, rfl, rfl⟩ := e
  obtain ⟨b, c, rfl, h1, h2, h3, h4, h5⟩ := hv i hi'
  repeat refine RTri.seq ?_
  refine RTri.block ?_
  repeat refine RTri.seq ?_
  refine RTri.region ?_;refine q_move rfl (by decide) ?_;refine q_assign rfl (by decide) ?_;refine RL.nil ?_
  repeat refine RTri.seq ?_
  refine RTri.region ?_;refine q_field tbl (off := 34) rfl (by kernel_rfl) (by decide) ?_;refine q_load1 tbl (cells Ki).1 rfl (by kernel_rfl) (by decide) ?_;refine q_move rfl (by decide) ?_;refine q_index tbl (E := 32) (sz := 36) hi' rfl rfl (by kernel_rfl) (by kernel_rfl) (by decide) ?_;refine q_loadA tbl (el_cell h3) ((el_len h4).trans (by kernel_rfl)) rfl (by kernel_rfl) (by decide) ?_;refine RL.call rfl rfl rfl (by decide) #[.agg (el c 36 i).toArray] (fun _ ha => x_call (by kernel_rfl) rfl rfl rfl ha) ?_
  refine (ih m hi w2 _ h5 (Nat.le_trans hh (Nat.le_trans gr.size Ki.size))).mono fun e w3 ⟨⟨v, he⟩, K3, W3⟩ => ⟨v, he, ?_⟩
  have Kj := Ki.trans K3
  obtain ⟨c3, g3, g4, _⟩ := W3.tm b c h1 h2 h3
  refine RL.nil ?_;refine RTri.region ?_;refine q_field tbl (off := 34) rfl (by kernel_rfl) (by decide) ?_;refine q_load1 tbl (cells Kj).1 rfl (by kernel_rfl) (by decide) ?_;refine q_move rfl (by decide) ?_;refine q_build build_T (by simp [evR]) (by decide) ?_;refine q_index tbl (E := 32) (sz := 36) hi' rfl rfl (by kernel_rfl) (by kernel_rfl) (by decide) ?_;refine q_store tbl (sz := 36) g3 (by omega) rfl rfl rfl rfl (by kernel_rfl) ?_;refine RL.nil ?_;refine RTri.region ?_;refine q_add tbl rfl (by omega) (by decide) ?_;refine q_move rfl (by decide) ?_;refine RL.nil ?_;exact ⟨i + 1, by omega, by omega, ⟨rfl, rfl, rfl, trivial⟩, Kj.trans (Keep.setRow g3 h1 h2), (Wi.trans W3).trans (Wore.tmSet g3 rfl (by omega) (zerT_zero 98))⟩
 have WI := W1.trans Wi
 clear hb hi1
 repeat refine RTri.seq ?_
 refine RTri.region ?_;refine q_field tbl (off := 35) rfl (by kernel_rfl) (by decide) ?_;refine q_load1 tbl (cells Ki).2 rfl (by kernel_rfl) (by decide) ?_;refine q_len (E := 106) rfl (by kernel_rfl) (by decide) ?_;refine q_move rfl (by decide) ?_;refine RL.nil ?_
 repeat refine RTri.seq ?_
 refine RTri.block ?_;refine RTri.loop (σ := Nat) (fun i env w2 => i ≤ n2 ∧ subE [(26, .int .i64 (i : Nat)), (25, .int .i64 n2), (1, .pointer (some ⟨B, 0, none⟩))] env ∧ Keep m hi w1 w2 ∧ Wore m hi w w2) (fun i => n2 - i) 0 ⟨Nat.zero_le _, ⟨rfl, rfl, rfl, trivial⟩, Ki, WI⟩ ?_;clear Ki Wi WI w2 i
 rintro i env w2 ⟨hi1, henv, Ki, Wi⟩
 refine RTri.less ?_ henv.get;clear henv env
 repeat refine RTri.seq ?_
 refine RTri.region ?_;refine q_lt tbl rfl rfl (by decide) ?_;refine RL.nil ?_
 repeat refine RTri.seq ?_
 refine RTri.cond rfl (fun hb => RTri.skip ?_) (fun hb => RTri.exit ?_)
 ·have hi' : i < n2 := of_decide_eq_true hb
  obtain ⟨a, n', cap', e, _, hv⟩ := softS_view (soft_css Wi hs2)
  simp only [Value.slice.injEq] at e
  obtain ⟨rfl, rfl, rfl⟩ := e
  obtain ⟨b, c, rfl, h1, h2, h3, h4, lp, lb, h5, h6, _, h7⟩ := hv i hi'
  have hbody : ∀ j v, lb[j]? = some v → w2.cell? ⟨b, i * 71 + 35 + j, none⟩ = some v := fun j v hj => by
   have := el_cell h3 (35 + j) v (by rw [h5, List.getElem?_append_right (by omega), h6]; simpa using hj)
   simpa [Nat.add_assoc] using this
  have hlb : lb.length = 36 := by
   have := el_len h4
   rw [h5, List.length_append] at this
   omega
  repeat refine RTri.seq ?_
  refine RTri.block ?_
  repeat refine RTri.seq ?_
  refine RTri.region ?_;refine q_move rfl (by decide) ?_;refine q_assign rfl (by decide) ?_;refine RL.nil ?_
  repeat refine RTri.seq ?_
  refine RTri.region ?_;refine q_field tbl (off := 35) rfl (by kernel_rfl) (by decide) ?_;refine q_load1 tbl (cells Ki).2 rfl (by kernel_rfl) (by decide) ?_;refine q_move rfl (by decide) ?_;refine q_index tbl (E := 106) (sz := 71) hi' rfl rfl (by kernel_rfl) (by kernel_rfl) (by decide) ?_;refine q_field tbl (off := 35) rfl (by kernel_rfl) (by decide) ?_;refine q_loadA tbl hbody (hlb.trans (by kernel_rfl)) rfl (by kernel_rfl) (by decide) ?_;refine RL.call rfl rfl rfl (by decide) #[.agg lb.toArray] (fun _ ha => x_call (by kernel_rfl) rfl rfl rfl ha) ?_
  refine (ih m hi w2 _ h7 (Nat.le_trans hh (Nat.le_trans gr.size Ki.size))).mono fun e w3 ⟨⟨v, he⟩, K3, W3⟩ => ⟨v, he, ?_⟩
  have Kj := Ki.trans K3
  have Wj := Wi.trans W3
  clear h3 h4 h5 h6 h7 hbody hlb hv
  obtain ⟨_, _, _, e, _, hv⟩ := softS_view (soft_css Wj hs2)
  simp only [Value.slice.injEq] at e
  obtain ⟨rfl, rfl, rfl⟩ := e
  obtain ⟨b', c, e, h1, h2, h3, h4, lp, lb, h5, h6, h7, _⟩ := hv i hi'
  simp only [Option.some.injEq, Addr.mk.injEq, and_true] at e
  subst e
  cases n with
  | zero => exact h7.elim
  | succ n' =>
  obtain ⟨pre', s, rfl, hp', hs3⟩ := h7
  obtain ⟨a3, n3, cap3, rfl, hn3, _⟩ := softS_view hs3
  have hkid : ∀ {w5 : World}, w5.heap[b]? = some (.cells c 106 (0, 0)) → w5.cell? ⟨b, i * 71 + 0 + 34, none⟩ = some (.slice a3 n3 cap3) := fun {w5} h => by
   have := el_cell h (k := 71) (i := i) 34 (.slice a3 n3 cap3) (by rw [h5, List.getElem?_append_left (by omega), List.getElem?_append_right (by omega), hp']; rfl)
   simpa [Nat.add_assoc] using this
  refine RL.nil ?_
  repeat refine RTri.seq ?_
  refine RTri.region ?_;refine q_field tbl (off := 35) rfl (by kernel_rfl) (by decide) ?_;refine q_load1 tbl (cells Kj).2 rfl (by kernel_rfl) (by decide) ?_;refine q_move rfl (by decide) ?_;refine q_index tbl (E := 106) (sz := 71) hi' rfl rfl (by kernel_rfl) (by kernel_rfl) (by decide) ?_;refine q_field tbl (off := 0) rfl (by kernel_rfl) (by decide) ?_;refine q_field tbl (off := 34) rfl (by kernel_rfl) (by decide) ?_;refine q_load1 tbl (hkid h3) rfl (by kernel_rfl) (by decide) ?_;refine q_len (E := 104) rfl (by kernel_rfl) (by decide) ?_;refine q_move rfl (by decide) ?_;refine RL.nil ?_
  repeat refine RTri.seq ?_
  refine RTri.block ?_;refine RTri.loop (σ := Nat) (fun k env w5 => k ≤ n3 ∧ subE [(44, .int .i64 (k : Nat)), (43, .int .i64 n3), (26, .int .i64 (i : Nat)), (25, .int .i64 n2), (3, .int .i64 (i : Nat)), (1, .pointer (some ⟨B, 0, none⟩))] env ∧ Keep m hi w1 w5 ∧ Wore m hi w3 w5 ∧ w5.heap[b]? = some (.cells c 106 (0, 0))) (fun k => n3 - k) 0 ⟨Nat.zero_le _, ⟨rfl, rfl, rfl, rfl, rfl, rfl, trivial⟩, Kj, Wore.refl, h3⟩ ?_
  rintro k env w5 ⟨hk1, henv, K5, W5, hb5⟩
  refine RTri.less ?_ henv.get;clear henv env
  repeat refine RTri.seq ?_
  refine RTri.region ?_;refine q_lt tbl rfl rfl (by decide) ?_;refine RL.nil ?_
  repeat refine RTri.seq ?_
  refine RTri.cond rfl (fun hb => RTri.skip ?_) (fun hb => RTri.exit ?_)
  ·have hk' : k < n3 := of_decide_eq_true hb
   obtain ⟨_, _, _, e, _, hv⟩ := softS_view (soft_pts W5 hs3)
   simp only [Value.slice.injEq] at e
   obtain ⟨rfl, rfl, rfl⟩ := e
   obtain ⟨b6, c6, rfl, f1, f2, f3, f4, _⟩ := hv k hk'
   have hne : b ≠ b6 := fun e => by
    subst e
    rw [hb5] at f3
    cases f3
   repeat refine RTri.seq ?_
   refine RTri.block ?_
   repeat refine RTri.seq ?_
   refine RTri.region ?_;refine q_move rfl (by decide) ?_;refine q_assign rfl (by decide) ?_;refine RL.nil ?_
   repeat refine RTri.seq ?_
   refine RTri.region ?_;refine q_field tbl (off := 35) rfl (by kernel_rfl) (by decide) ?_;refine q_load1 tbl (cells K5).2 rfl (by kernel_rfl) (by decide) ?_;refine q_move rfl (by decide) ?_;refine q_index tbl (E := 106) (sz := 71) hi' rfl rfl (by kernel_rfl) (by kernel_rfl) (by decide) ?_;refine q_field tbl (off := 0) rfl (by kernel_rfl) (by decide) ?_;refine q_field tbl (off := 34) rfl (by kernel_rfl) (by decide) ?_;refine q_load1 tbl (hkid hb5) rfl (by kernel_rfl) (by decide) ?_;refine q_move rfl (by decide) ?_;refine q_build build_P (by simp [evR]) (by decide) ?_;refine q_index tbl (E := 104) (sz := 35) hk' rfl rfl (by kernel_rfl) (by kernel_rfl) (by decide) ?_;refine q_store tbl (sz := 35) f3 f4 rfl rfl rfl rfl (by kernel_rfl) ?_;refine RL.nil ?_;refine RTri.region ?_;refine q_add tbl rfl (by omega) (by decide) ?_;refine q_move rfl (by decide) ?_;refine RL.nil ?_
   exact ⟨k + 1, by omega, by omega, ⟨rfl, rfl, rfl, rfl, rfl, rfl, trivial⟩, K5.trans (Keep.setRow f3 f1 f2), W5.trans (Wore.ptSet f3 rfl f4 (zerP_zero 98)), (setRow_ne w5 b6 _ hne).trans hb5⟩
  ·refine RTri.region ?_
   refine q_field tbl (off := 35) rfl (by kernel_rfl) (by decide) ?_;refine q_load1 tbl (cells K5).2 rfl (by kernel_rfl) (by decide) ?_;refine q_move rfl (by decide) ?_;refine q_build build_C (by simp) (by decide) ?_;refine q_index tbl (E := 106) (sz := 71) hi' rfl rfl (by kernel_rfl) (by kernel_rfl) (by decide) ?_;refine q_store tbl (sz := 71) hb5 h4 rfl rfl rfl rfl (by kernel_rfl) ?_;refine RL.nil ?_;refine RTri.region ?_;refine q_add tbl rfl (by omega) (by decide) ?_;refine q_move rfl (by decide) ?_;refine RL.nil ?_;exact ⟨i + 1, by omega, by omega, ⟨rfl, rfl, rfl, trivial⟩, K5.trans (Keep.setRow hb5 h1 h2), (Wj.trans W5).trans (Wore.csSet hb5 rfl h4 zerC_zero)⟩
 ·have hr : Tryz.f51.results = #[] := rfl
  exact ⟨.inl rfl, fun a ha => ⟨.tuple #[], by simp [results, hr], ⟨_, rfl⟩, (Keep.of_grew gr).trans Ki, Wi⟩⟩
end Go.Proofs.YtkcgkignhpepkaaGreatDoor

/- The reference: closed terms put for variables. -/
namespace Go.Proofs.YtkcgkignhpepkaaGreatDoor
open Go Hs
variable {G : List (Nat × TypeId × Pu)}
theorem rmoved_c : ∀ (N : Nat) (t : Tm), tsize t ≤ N → N < 2^30 → ∀ (d b : Int), gdT d t → 0 ≤ d → d + 2 * tsize t ≤ 2^42 →
  FCall Tryz.prog G 246 [.pu (tmc 0 t), iv .i64 d, iv .i64 b, iv .i64 0] (.pu (tmc 0 t)) := by
 intro N
 induction N with
 | zero => intro t h; have := tsize_pos t; omega
 | succ N ih =>
 intro t hp hN d by' hg hd0 hd1
 obtain ⟨k, n, r, ks, cs⟩ := t
 simp only [tsize] at hp hd1
 have hlen := length_tsizeL ks
 have hlenc := length_csizeL cs
 have hK := fun j x hx => gdK_mem hg.2.2.2.2.1 (j := j) (x := x) hx
 have hC := gdC_mem hg.2.2.2.2.2
 refine FCall.of_tri tbl 100 Tryz.func246 rfl rfl rfl fun w0 M ρ0 D0 => ?_
 refine yR ?_;refine s_box SS 4 ?_;refine s_alloc SS 8 ?_;refine e_seqN [4, 8] ?_;refine Y13 ?_;refine Y49 ?_;refine yP ?_;refine s_alloc SS 9 ?_;refine yS ?_;refine e_seqN [9] ?_;refine Y41 ?_;refine xM ?_;refine Y69 ?_;refine Y17 ?_;refine Y0 ?_;refine Tri.cond rfl (fun h0 => ?_) (fun h0 => ?_)
 ·exfalso
  have hv := hg.2.2.2.1
  simp at h0
  have := hv h0.1
  rw [wrap64 (by omega) (by omega)] at h0
  omega
 ·skip
  refine Tri.skip ?_;refine Y8 ?_;refine Tri.block (Tri.loopW (σ := Nat) (fun i => ⟨[(1, iv .i64 d), (2, iv .i64 by'), (3, iv .i64 0), (4, .ptr 4 [] 32), (8, .ptr 8 [] 32), (9, .ptr 9 [] 32), (10, iv .i64 i)], [(4, .var 32 (.pu (tmc 0 (.mk k n r ks cs)))), (8, .var 32 (.agg 32 [iv .i64 0, iv .i64 0, .pu (refP Z32), .nilc, .nilc])), (9, .var 32 (.agg 32 [iv .i64 k, iv .i64 n, .pu (refP r), .ow 0 32 (tmsc 0 (ks.take i)), .ow 0 106 []]))]⟩) (fun i => ks.length - i) 0 ?_ ?_ (fun i => ?_))
  ·repeat (first | exact .nil | refine .cons rfl (by first | exact .refl | (focus ((repeat constructor); done)) | (exact .var (.agg (.cons .refl (.cons .refl (.cons .refl (.cons .nilcOw (.cons .nilcOw .nil)))))))) ?_)
  ·repeat (first | exact .nil | refine .cons rfl (by first | exact .refl | (focus ((repeat constructor); done)) | (exact .var (.agg (.cons .refl (.cons .refl (.cons .refl (.cons .nilcOw (.cons .nilcOw .nil)))))))) ?_)
  refine Y60 ?_;refine Tri.cond rfl (fun h1 => ?_) (fun h1 => ?_)
  ·skip
   have hi : i < ks.length := by rw [tms_length] at h1; simpa using h1
   have hmo := more_b k i
   have hsz := tsize_mem (List.getElem_mem hi)
   have hgi := hK i ks[i] (List.getElem?_eq_getElem hi)
   rw [Nat.zero_add] at hgi
   have hts : tmsc 0 (ks.take (i + 1)) = tmsc 0 (ks.take i) ++ [tmc 0 ks[i]] := by
    rw [tms_eq, tms_eq, List.take_succ_eq_append_getElem hi, List.map_append]; rfl
   refine Tri.skip ?_;refine tQ ?_;refine Tri.block ?_;refine Y14 ?_;refine Y46 ?_;refine s_val (v_index SS (h0 := by omega) (hp := tms_get hi)) ?_;refine yL ?_;refine yM ?_;refine Y4 ?_;refine yM ?_;refine s_val (v_callD (fun _ => rmore_c k i)) ?_;refine yI ?_;refine Y42 ?_;refine s_val (v_callD (fun _ => ih ks[i] (by omega) (by omega) (d + moreM k i) by' hgi (by omega) (by omega))) ?_;refine yZ ?_;refine s_app2 9 [3] ?_ ?_
   ·simp [tms_eq]; omega
   refine Y67 ?_;refine Y28 ?_
   refine ⟨i + 1, by omega, le_of ?_ ?_⟩
   ·repeat (first | exact SubE.nil | refine SubE.cons rfl (by first | rfl | (rw [wrap64 (by omega) (by omega)]; rfl) | (rw [hts]; rfl)) ?_)
   ·repeat (first | exact SubH.nil | refine SubH.cons rfl (by first | rfl | (rw [wrap64 (by omega) (by omega)]; rfl) | (rw [hts]; rfl)) ?_)
  ·skip
   have hi : ks.length ≤ i := by rw [tms_length] at h1; simpa using h1
   rw [List.take_of_length_le hi];refine Tri.exit ?_;refine Y8 ?_;refine Tri.block (Tri.loopW (σ := Nat) (fun i => ⟨[(1, iv .i64 d), (2, iv .i64 by'), (3, iv .i64 0), (4, .ptr 4 [] 32), (8, .ptr 8 [] 32), (9, .ptr 9 [] 32), (11, iv .i64 i)], [(4, .var 32 (.pu (tmc 0 (.mk k n r ks cs)))), (8, .var 32 (.agg 32 [iv .i64 0, iv .i64 0, .pu (refP Z32), .nilc, .nilc])), (9, .var 32 (.agg 32 [iv .i64 k, iv .i64 n, .pu (refP r), .ow 0 32 (tmsc 0 ks), .ow 0 106 (cssc 0 (cs.take i))]))]⟩) (fun i => cs.length - i) 0 ?_ ?_ (fun i => ?_))
   ·exact zW
   ·exact zW
   refine Y60 ?_;refine Tri.cond rfl (fun h2 => ?_) (fun h2 => ?_)
   ·skip
    have hi : i < cs.length := by rw [css_length] at h2; simpa using h2
    have hsz := csize_mem (List.getElem_mem hi)
    have hget := css_get (lo := 0) hi
    have hgi := (hC cs[i] (List.getElem_mem hi)).2
    have hcs0 : cssc 0 (cs.take (i + 1)) = cssc 0 (cs.take i) ++ [csec 0 cs[i]] := by
     rw [css_eq, css_eq, List.take_succ_eq_append_getElem hi, List.map_append]; rfl
    generalize hci : cs[i] = ci at hget hsz hgi hcs0
    obtain ⟨q, b⟩ := ci
    simp only [csize] at hsz
    simp only [csP, csT] at hgi
    have hbb := binds_bound q
    refine Tri.skip ?_;refine tQ ?_;refine Tri.block ?_;refine Y14 ?_;refine Y46 ?_;refine s_val (v_index SS (h0 := by omega) (hp := hget)) ?_;refine Y4 ?_;refine s_val (v_callD (fun _ => refOwnPattern_c _ q (Nat.le_refl _) (by omega))) ?_;refine Y46 ?_;refine s_val (v_index SS (h0 := by omega) (hp := hget)) ?_;refine Y4 ?_;refine yM ?_;refine Y46 ?_;refine s_val (v_index SS (h0 := by omega) (hp := hget)) ?_;refine Y4 ?_;refine s_val (v_callD (fun _ => rbound_c _ q (Nat.le_refl _) (by omega))) ?_;refine yI ?_;refine Y42 ?_;refine s_val (v_callD (fun _ => ih b (by omega) (by omega) (d + bindsM q) by' hgi (by omega) (by omega))) ?_;refine yP ?_;refine yZ ?_;refine s_app2 9 [4] ?_ ?_
    ·simp [css_eq]; omega
    refine Y67 ?_;refine Y28 ?_
    refine ⟨i + 1, by omega, le_of ?_ ?_⟩
    ·repeat (first | exact SubE.nil | refine SubE.cons rfl (by first | rfl | (rw [wrap64 (by omega) (by omega)]; rfl) | (rw [hcs0]; rfl)) ?_)
    ·repeat (first | exact SubH.nil | refine SubH.cons rfl (by first | rfl | (rw [wrap64 (by omega) (by omega)]; rfl) | (rw [hcs0]; rfl)) ?_)
   ·skip
    have hi : cs.length ≤ i := by rw [css_length] at h2; simpa using h2
    rw [List.take_of_length_le hi];refine Tri.exit ?_;refine Y64 ?_;exact Tri.ret ⟨.inr rfl, ret1 rfl resV_cell (ToPu.imp (by repeat constructor))⟩
set_option maxHeartbeats 1000000 in
theorem rput_c (u : Tm) (hu : gdT 0 u) (hus : tsize u < 2^30) : ∀ (N : Nat) (t : Tm), tsize t ≤ N → N < 2^30 → ∀ (d e : Int), gdT e t → 0 ≤ d → d + 2 * tsize t ≤ 2^42 → e + 2 * tsize t ≤ 2^43 →
  FCall Tryz.prog G 232 [.pu (tmc 0 t), iv .i64 d, iv .i64 0, .pu (tmc 0 u)] (.pu (tmc 0 (putM [u] d t))) := by
 intro N
 induction N with
 | zero => intro t h; have := tsize_pos t; omega
 | succ N ih =>
 intro t hp hN d e hg hd0 hd1 he
 obtain ⟨k, n, r, ks, cs⟩ := t
 simp only [tsize] at hp hd1 he
 have hlen := length_tsizeL ks
 have hlenc := length_csizeL cs
 have hK := fun j x hx => gdK_mem hg.2.2.2.2.1 (j := j) (x := x) hx
 have hC := gdC_mem hg.2.2.2.2.2
 have hv := hg.2.2.2.1
 obtain ⟨out, hout⟩ : ∃ out, out = putK [u] d k 0 ks := ⟨_, rfl⟩
 have houtl : out.length = ks.length := by rw [hout, putK_len]
 refine FCall.of_tri tbl 113 Tryz.func232 rfl rfl rfl fun w0 M ρ0 D0 => ?_
 refine yR ?_;refine s_box SS 4 ?_;refine s_box SS 7 ?_;refine s_alloc SS 8 ?_;refine e_seqN [4, 7, 8] ?_;refine Y41 ?_;refine xM ?_;refine xM ?_;refine xI ?_;refine Y17 ?_;refine Y0 ?_;refine Tri.cond rfl (fun h0 => ?_) (fun h0 => ?_)
 ·skip
  have hkn : k = 1 ∧ n = d := by simp at h0; obtain ⟨a, b⟩ := h0; rw [wrap64 (by omega) (by omega)] at b; exact ⟨a, by omega⟩
  have hput : putM [u] d (.mk k n r ks cs) = u := by
   have hw : IntKind.wrap .i64 (n - d) = 0 := by rw [hkn.2, Int.sub_self]; rfl
   simp only [putM, hw]
   rw [dif_pos ⟨hkn.1, by omega, by simp⟩, dif_pos (by simp)]
   rfl
  refine Y54 ?_;refine s_val (v_callD (fun _ => rmoved_c _ u (Nat.le_refl _) hus 0 d hu (by omega) (by omega))) ?_;refine Y23 ?_;exact Tri.ret ⟨.inr rfl, ret1 rfl resV_cell (VImp.of_eq (by rw [hput]))⟩
 ·skip
  have h0' : ¬ (k = 1 ∧ n = d) := fun hkn => by
   obtain ⟨a, b⟩ := hkn
   subst a b
   simp at h0
   rw [wrap64 (by omega) (by omega)] at h0
   omega
  refine Tri.skip ?_;refine Y13 ?_;refine Y49 ?_;refine yP ?_;refine s_alloc SS 9 ?_;refine yS ?_;refine e_seqN [9] ?_;refine Y41 ?_;refine xM ?_;refine xM ?_;refine xI ?_;refine Y17 ?_;refine Y0 ?_;refine Tri.cutW (σ := {n' : Int // putM [u] d (.mk k n r ks cs) = .mk k n' r (putK [u] d k 0 ks) (putC [u] d cs)}) (fun n' => ⟨[(1, iv .i64 d), (2, iv .i64 0), (4, .ptr 4 [] 32), (7, .ptr 7 [] 32), (8, .ptr 8 [] 32), (9, .ptr 9 [] 32)], [(4, .var 32 (.pu (tmc 0 (.mk k n r ks cs)))), (7, .var 32 (.pu (tmc 0 u))), (8, .var 32 (.agg 32 [iv .i64 0, iv .i64 0, .pu (refP Z32), .nilc, .nilc])), (9, .var 32 (.agg 32 [iv .i64 k, iv .i64 n'.1, .pu (refP r), .nilc, .nilc]))]⟩) ?_ (fun n' => ?_)
  ·skip
   refine tQ ?_;refine Tri.cond rfl (fun h1 => ?_) (fun h1 => ?_)
   ·skip
    have hkn : k = 1 ∧ d < n := by simp at h1; obtain ⟨a, b⟩ := h1; have := hv a; rw [wrap64 (by omega) (by omega)] at b; exact ⟨a, by omega⟩
    have hput : putM [u] d (.mk k n r ks cs) = .mk k (IntKind.wrap .i64 (n - 1)) r (putK [u] d k 0 ks) (putC [u] d cs) := by
     have := hv hkn.1
     have hw : IntKind.wrap .i64 (n - d) = n - d := wrap64 (by omega) (by omega)
     simp only [putM, hw]
     rw [dif_pos ⟨hkn.1, by omega, by simp⟩, dif_neg (by simp; omega)]
     rfl
    refine Y21 ?_;refine Y58 ?_
    refine ⟨⟨_, hput⟩, ?_, ?_⟩
    ·exact zW
    ·exact zW
   ·skip
    have hput : putM [u] d (.mk k n r ks cs) = .mk k n r (putK [u] d k 0 ks) (putC [u] d cs) := by
     simp only [putM]
     rw [dif_neg fun hh => by
      obtain ⟨a, b, _⟩ := hh
      have := hv a
      rw [wrap64 (by omega) (by omega)] at b
      subst a
      simp at h1
      rw [wrap64 (by omega) (by omega)] at h1
      omega]
    refine Tri.skip ?_
    refine ⟨⟨_, hput⟩, ?_, ?_⟩
    ·exact zW
    ·exact zW
  ·skip
   obtain ⟨n', hput⟩ := n'
   refine Y8 ?_;refine Tri.block (Tri.loopW (σ := Nat) (fun i => ⟨[(1, iv .i64 d), (2, iv .i64 0), (4, .ptr 4 [] 32), (7, .ptr 7 [] 32), (8, .ptr 8 [] 32), (9, .ptr 9 [] 32), (10, iv .i64 i)], [(4, .var 32 (.pu (tmc 0 (.mk k n r ks cs)))), (7, .var 32 (.pu (tmc 0 u))), (8, .var 32 (.agg 32 [iv .i64 0, iv .i64 0, .pu (refP Z32), .nilc, .nilc])), (9, .var 32 (.agg 32 [iv .i64 k, iv .i64 n', .pu (refP r), .ow 0 32 (tmsc 0 (out.take i)), .ow 0 106 []]))]⟩) (fun i => ks.length - i) 0 ?_ ?_ (fun i => ?_))
   ·repeat (first | exact .nil | refine .cons rfl (by first | exact .refl | (focus ((repeat constructor); done)) | (exact .var (.agg (.cons .refl (.cons .refl (.cons .refl (.cons .nilcOw (.cons .nilcOw .nil)))))))) ?_)
   ·repeat (first | exact .nil | refine .cons rfl (by first | exact .refl | (focus ((repeat constructor); done)) | (exact .var (.agg (.cons .refl (.cons .refl (.cons .refl (.cons .nilcOw (.cons .nilcOw .nil)))))))) ?_)
   refine Y60 ?_;refine Tri.cond rfl (fun h2 => ?_) (fun h2 => ?_)
   ·skip
    have hi : i < ks.length := by rw [tms_length] at h2; simpa using h2
    have hmo := more_b k i
    have hsz := tsize_mem (List.getElem_mem hi)
    have hgi := hK i ks[i] (List.getElem?_eq_getElem hi)
    rw [Nat.zero_add] at hgi
    have hel : out[i]'(by omega) = putM [u] (d + moreM k i) ks[i] := by
     have := putK_get [u] d k ks 0 i hi
     rw [Nat.zero_add] at this
     rw [← this]; congr 1
    have hts : tmsc 0 (out.take (i + 1)) = tmsc 0 (out.take i) ++ [tmc 0 (putM [u] (d + moreM k i) ks[i])] := by
     rw [tms_eq, tms_eq, List.take_succ_eq_append_getElem (by omega), List.map_append, hel]; rfl
    refine Tri.skip ?_;refine tQ ?_;refine Tri.block ?_;refine Y14 ?_;refine Y46 ?_;refine s_val (v_index SS (h0 := by omega) (hp := tms_get hi)) ?_;refine yL ?_;refine yM ?_;refine Y4 ?_;refine yM ?_;refine s_val (v_callD (fun _ => rmore_c k i)) ?_;refine yI ?_;refine yM ?_;refine yL ?_;refine s_val (v_callD (fun _ => ih ks[i] (by omega) (by omega) (d + moreM k i) (e + moreM k i) hgi (by omega) (by omega) (by omega))) ?_;refine yZ ?_;refine s_app2 9 [3] ?_ ?_
    ·simp [tms_eq]; omega
    refine Y67 ?_;refine Y28 ?_
    refine ⟨i + 1, by omega, le_of ?_ ?_⟩
    ·repeat (first | exact SubE.nil | refine SubE.cons rfl (by first | rfl | (rw [wrap64 (by omega) (by omega)]; rfl) | (rw [hts]; rfl)) ?_)
    ·repeat (first | exact SubH.nil | refine SubH.cons rfl (by first | rfl | (rw [wrap64 (by omega) (by omega)]; rfl) | (rw [hts]; rfl)) ?_)
   ·skip
    have hi : ks.length ≤ i := by rw [tms_length] at h2; simpa using h2
    rw [List.take_of_length_le (show out.length ≤ i by omega)];refine Tri.exit ?_;refine Y8 ?_;refine Tri.block (Tri.loopW (σ := Nat) (fun i => ⟨[(1, iv .i64 d), (2, iv .i64 0), (4, .ptr 4 [] 32), (7, .ptr 7 [] 32), (8, .ptr 8 [] 32), (9, .ptr 9 [] 32), (11, iv .i64 i)], [(4, .var 32 (.pu (tmc 0 (.mk k n r ks cs)))), (7, .var 32 (.pu (tmc 0 u))), (8, .var 32 (.agg 32 [iv .i64 0, iv .i64 0, .pu (refP Z32), .nilc, .nilc])), (9, .var 32 (.agg 32 [iv .i64 k, iv .i64 n', .pu (refP r), .ow 0 32 (tmsc 0 out), .ow 0 106 (cssc 0 ((putC [u] d cs).take i))]))]⟩) (fun i => cs.length - i) 0 ?_ ?_ (fun i => ?_))
    ·exact zW
    ·exact zW
    refine Y60 ?_;refine Tri.cond rfl (fun h3 => ?_) (fun h3 => ?_)
    ·skip
     have hi : i < cs.length := by rw [css_length] at h3; simpa using h3
     have hsz := csize_mem (List.getElem_mem hi)
     have hget := css_get (lo := 0) hi
     have hgi := (hC cs[i] (List.getElem_mem hi)).2
     have hpc := putC_get [u] d cs i hi
     generalize hci : cs[i] = ci at hget hsz hgi hpc
     obtain ⟨q, b⟩ := ci
     simp only [csize] at hsz
     simp only [csP, csT] at hgi
     have hbb := binds_bound q
     have hcs0 : cssc 0 ((putC [u] d cs).take (i + 1)) = cssc 0 ((putC [u] d cs).take i) ++ [csec 0 (.mk q (putM [u] (d + bindsM q) b))] := by
      rw [css_eq, css_eq, List.take_succ_eq_append_getElem (by rw [putC_len]; exact hi), List.map_append, hpc]; rfl
     refine Tri.skip ?_;refine tQ ?_;refine Tri.block ?_;refine Y14 ?_;refine Y46 ?_;refine s_val (v_index SS (h0 := by omega) (hp := hget)) ?_;refine Y4 ?_;refine s_val (v_callD (fun _ => refOwnPattern_c _ q (Nat.le_refl _) (by omega))) ?_;refine Y46 ?_;refine s_val (v_index SS (h0 := by omega) (hp := hget)) ?_;refine Y4 ?_;refine yM ?_;refine Y46 ?_;refine s_val (v_index SS (h0 := by omega) (hp := hget)) ?_;refine Y4 ?_;refine s_val (v_callD (fun _ => rbound_c _ q (Nat.le_refl _) (by omega))) ?_;refine yI ?_;refine yM ?_;refine yL ?_;refine s_val (v_callD (fun _ => ih b (by omega) (by omega) (d + bindsM q) (e + bindsM q) hgi (by omega) (by omega) (by omega))) ?_;refine yP ?_;refine yZ ?_;refine s_app2 9 [4] ?_ ?_
     ·simp [css_eq, putC_len]; omega
     refine Y67 ?_;refine Y28 ?_
     refine ⟨i + 1, by omega, le_of ?_ ?_⟩
     ·repeat (first | exact SubE.nil | refine SubE.cons rfl (by first | rfl | (rw [wrap64 (by omega) (by omega)]; rfl) | (rw [hcs0]; rfl)) ?_)
     ·repeat (first | exact SubH.nil | refine SubH.cons rfl (by first | rfl | (rw [wrap64 (by omega) (by omega)]; rfl) | (rw [hcs0]; rfl)) ?_)
    ·skip
     have hi : cs.length ≤ i := by rw [css_length] at h3; simpa using h3
     rw [List.take_of_length_le (by rw [putC_len]; exact hi)];refine Tri.exit ?_;refine Y64 ?_;exact Tri.ret ⟨.inr rfl, ret1 rfl resV_cell ((by rw [hput, ← hout]; exact ToPu.imp (by repeat constructor)))⟩
theorem rinto_c (u t : Tm) (hu : gdT 0 u) (hus : tsize u < 2^30) (e : Int) (hg : gdT e t) (ht : tsize t < 2^30) (he : e ≤ 2^40) : FCall Tryz.prog G 181 [.pu (tmc 0 t), iv .i64 0, .pu (tmc 0 u)] (.pu (tmc 0 (putM [u] 0 t))) := by
 refine FCall.of_tri tbl 11 Tryz.func181 rfl rfl rfl fun w0 M ρ0 D0 => ?_
 refine yR ?_;refine s_box SS 3 ?_;refine s_box SS 5 ?_;refine s_alloc SS 6 ?_;refine e_seqN [3, 5, 6] ?_;refine Y54 ?_;refine yL ?_;refine s_val (v_callD (fun _ => rput_c u hu hus _ t (Nat.le_refl _) ht 0 e hg (by omega) (by omega) (by omega))) ?_;refine Y23 ?_;exact Tri.ret ⟨.inr rfl, ret1 rfl resV_cell (ToPu.imp (by repeat constructor))⟩
end Go.Proofs.YtkcgkignhpepkaaGreatDoor

/- The reference: a part of a term, set. -/
namespace Go.Proofs.YtkcgkignhpepkaaGreatDoor
open Go Hs
variable {G : List (Nat × TypeId × Pu)}
def setM : Tm → List Nat → Tm → Tm
 | _, [], u => u
 | t, j :: q, u => match t.kids[j]? with
  | some x => setKid t j (setM x q u)
  | none => t
theorem rset_c (u : Tm) : ∀ (p : List Nat) (t : Tm), okP t p → tsize t < 2^30 → p.length < 2^30 →
  FCall Tryz.prog G 183 [.pu (tmc 0 t), .pu (.sl 0 3 (pathL p)), .pu (tmc 0 u)] (.pu (tmc 0 (setM t p u))) := by
 intro p
 induction p with
 | nil =>
  intro t _ hN _
  refine FCall.of_tri tbl 69 Tryz.func183 rfl rfl rfl fun w0 M ρ0 D0 => ?_
  refine yR ?_;refine s_box SS 3 ?_;refine s_box SS 5 ?_;refine s_alloc SS 6 ?_;refine e_seqN [3, 5, 6] ?_;refine Y1 ?_;refine Y31 ?_;refine Tri.cond rfl (fun h0 => ?_) (fun h0 => ?_)
  ·skip
   refine Y64 ?_;exact Tri.ret ⟨.inr rfl, ret1 rfl resV_cell (ToPu.imp (by repeat constructor))⟩
  ·exfalso; simp [pathL] at h0
 | cons j q ih =>
  intro t hok hN hl
  obtain ⟨x, hx, hokq⟩ := hok
  obtain ⟨k, n, r, ks, cs⟩ := t
  simp only [kids_mk] at hx
  have hj : j < ks.length := (List.getElem?_eq_some_iff.1 hx).1
  have hlen := length_tsizeL ks
  have hN' := hN
  simp only [tsize] at hN'
  have hxs := tsize_mem (List.mem_of_getElem? hx)
  have hxg : (tmsc 0 ks)[j]? = some (tmc 0 x) := by simp [tms_eq, hx]
  simp only [List.length_cons] at hl
  have hkt : j < (tmsc 0 ks).length := by rw [tms_length]; exact hj
  have hp0 : (pathL (j :: q))[0]? = some (.leaf (.int .i64 (j : Nat))) := by simp [pathL]
  have hne : tmsc 0 ks ≠ [] := fun e => by
   have := congrArg List.length e
   rw [tms_length] at this
   simp at this
   simp [this] at hj
  refine FCall.of_tri tbl 69 Tryz.func183 rfl rfl rfl fun w0 M ρ0 D0 => ?_
  refine yR ?_;refine s_box SS 3 ?_;refine s_box SS 5 ?_;refine s_alloc SS 6 ?_;refine e_seqN [3, 5, 6] ?_;refine Y1 ?_;refine Y31 ?_;refine Tri.cond rfl (fun h0 => ?_) (fun h0 => ?_)
  ·exfalso; simp [pathL] at h0; omega
  ·skip
   refine Tri.skip ?_;refine Y6 ?_;refine s_alloc SS 7 ?_;refine yS ?_;refine e_seqN [7] ?_;refine Y1 ?_;refine s_val (v_index SS (h0 := by omega) (hp := hp0)) ?_;refine yL ?_;refine Y10 ?_;refine Y60 ?_;refine Tri.cond rfl (fun h1 => ?_) (fun h1 => ?_)
   ·skip
    refine yR ?_;refine yZ ?_;refine Y7 ?_;refine s_appRow SS 70 hne (by rw [tms_length]; omega) ?_;refine Y55 ?_;refine e_seqN [70] ?_;refine Y45 ?_;refine Y46 ?_;refine s_val (v_index SS (h0 := by omega) (hp := hxg)) ?_;refine yL ?_;refine yM ?_;refine s_val (v_sliceFrom SS (ps := pathL (j :: q)) (l := 1) (by simp [pathL])) ?_;refine yL ?_;refine s_val (v_callD (fun _ => ih x hokq (by omega) (by omega))) ?_;refine s_val (v_ixa SS) ?_;refine s_storeR SS (i := j) (vs := (tmsc 0 ks).map .pu) (u0 := .pu (tmc 0 x)) (by simp [tms_eq, hx]) ?_;refine e_draw ?_;rw [tms_set]
    refine Tri.freeze (lo := 0) (l := 70) (E := 32) (ps := tmsc 0 (ks.set j (setM x q u))) (env' := [(6, .ptr 6 [] 32), (7, .ptr 7 [] 32)]) (heap' := [(6, .var 32 (.agg 32 [iv .i64 0, iv .i64 0, .pu (refP Z32), .nilc, .nilc])), (7, .var 32 (.agg 32 [.pu (.leaf (.int .i64 k)), .pu (.leaf (.int .i64 n)), .pu (refP r), .pu (.sl 0 32 (tmsc 0 (ks.set j (setM x q u)))), .pu (.sl 0 106 (cssc 0 cs))]))]) rfl (.inl rfl) ?_ (h2 := .cons rfl rfl rfl (.cons rfl rfl (by simp [frzOb, frzV, frzL, tms_length, tms_setl]) .nil))
    have hset : setM (.mk k n r ks cs) (j :: q) u = .mk k n r (ks.set j (setM x q u)) cs := by simp only [setM, kids_mk, hx, setKid]
    rw [hset];refine Y64 ?_;exact Tri.ret ⟨.inr rfl, ret1 rfl resV_cell (ToPu.imp (by repeat constructor))⟩
   ·exfalso; rw [tms_length] at h1; simp at h1; omega
end Go.Proofs.YtkcgkignhpepkaaGreatDoor

/- Values put at once, and one after the other; a part set, and the way filled. -/
namespace Go.Proofs.YtkcgkignhpepkaaGreatDoor
open Go Hs
mutual
theorem put_closed (vs : List Tm) : ∀ (t : Tm) (d e : Int), gdT d t → d ≤ e → 0 ≤ d → e + 2 * tsize t ≤ 2^42 → putM vs e t = t
 | .mk k n r ks cs, d, e, h, hd, h0, he => by
  simp only [tsize] at he
  have hk := putK_closed vs ks d e k 0 h.2.2.2.2.1 hd h0 (by omega)
  have hc := putC_closed vs cs d e h.2.2.2.2.2 hd h0 (by omega)
  simp only [putM]
  rw [dif_neg fun hh => by
   have := h.2.2.2.1 hh.1
   have h2 := hh.2.1
   rw [wrap64 (by omega) (by omega)] at h2
   omega, hk, hc]
theorem putK_closed (vs : List Tm) : ∀ (ks : List Tm) (d e k : Int) (i : Nat), gdK d k i ks → d ≤ e → 0 ≤ d → e + 2 + 2 * tsizeL ks ≤ 2^42 → putK vs e k i ks = ks
 | [], _, _, _, _, _, _, _, _ => rfl
 | t :: ts, d, e, k, i, h, hd, h0, he => by
  simp only [tsizeL] at he
  have hm := more_b k i
  have hp := tsize_pos t
  simp only [putK]
  rw [put_closed vs t (d + moreM k i) (e + moreM k i) h.1 (by omega) (by omega) (by omega), putK_closed vs ts d e k (i + 1) h.2 hd h0 (by omega)]
theorem putC_closed (vs : List Tm) : ∀ (cs : List Cs) (d e : Int), gdC d cs → d ≤ e → 0 ≤ d → e + 2 * csizeL cs ≤ 2^42 → putC vs e cs = cs
 | [], _, _, _, _, _, _ => rfl
 | .mk q t :: cs, d, e, h, hd, h0, he => by
  simp only [csizeL, csize] at he
  have hb := binds_bound q
  simp only [putC, putS]
  rw [put_closed vs t (d + bindsM q) (e + bindsM q) h.1.2 (by omega) (by omega) (by omega), putC_closed vs cs d e h.2 hd h0 (by omega)]
end
mutual
theorem put_one (v : Tm) (vs : List Tm) (hl : vs.length < 2^40) (hvs : ∀ x ∈ vs, gdT 0 x ∧ tsize x < 2^40) : ∀ (t : Tm) (d e : Int), gdT e t → 0 ≤ d → d + 2 * tsize t ≤ 2^41 → e + 2 * tsize t ≤ 2^42 →
  putM (v :: vs) d t = putM [v] d (putM vs d t)
 | .mk k n r ks cs, d, e, h, h0, hd, he => by
  simp only [tsize] at hd he
  have hk := putK_one v vs hl hvs ks d e k 0 h.2.2.2.2.1 h0 (by omega) (by omega)
  have hc := putC_one v vs hl hvs cs d e h.2.2.2.2.2 h0 (by omega) (by omega)
  have hv := h.2.2.2.1
  by_cases h1 : k = 1 ∧ d ≤ n
  ·obtain ⟨hk1, hdn⟩ := h1
   have hn := hv hk1
   have hw : IntKind.wrap .i64 (n - d) = n - d := wrap64 (by omega) (by omega)
   by_cases h2 : n - d < vs.length
   ·-- a value of vs
    have hpos : 0 < vs.length := by omega
    have e1 : putM vs d (.mk k n r ks cs) = vs[vs.length - 1 - (n - d).toNat]'(by omega) := by
     simp only [putM, hw]
     rw [dif_pos ⟨hk1, by omega, hpos⟩, dif_pos h2]
    have hm := hvs _ (List.getElem_mem (show vs.length - 1 - (n - d).toNat < vs.length by omega))
    rw [e1, put_closed [v] _ 0 d hm.1 (by omega) (by omega) (by omega)]
    simp only [putM, hw]
    rw [dif_pos ⟨hk1, by omega, by simp⟩, dif_pos (by simp; omega)]
    simp only [List.length_cons]
    have : vs.length + 1 - 1 - (n - d).toNat = (vs.length - 1 - (n - d).toNat) + 1 := by omega
    simp only [this, List.getElem_cons_succ]
   ·have e1 : putM vs d (.mk k n r ks cs) = .mk k (n - vs.length) r (putK vs d k 0 ks) (putC vs d cs) := by
     by_cases hpos : 0 < vs.length
     ·simp only [putM, hw]
      rw [dif_pos ⟨hk1, by omega, hpos⟩, dif_neg h2, wrap64 (by omega) (by omega)]
     ·simp only [putM, hw]
      rw [dif_neg fun hh => hpos hh.2.2]
      have : vs.length = 0 := by omega
      simp [this]
    rw [e1]
    have hw2 : IntKind.wrap .i64 (n - vs.length - d) = n - vs.length - d := wrap64 (by omega) (by omega)
    by_cases h3 : n - d = vs.length
    ·simp only [putM, hw, hw2]
     rw [dif_pos ⟨hk1, by omega, by simp⟩, dif_pos (by simp; omega), dif_pos ⟨hk1, by omega, by simp⟩, dif_pos (by simp; omega)]
     have e3 : (v :: vs).length - 1 - (n - d).toNat = 0 := by simp; omega
     have e4 : ([v] : List Tm).length - 1 - (n - vs.length - d).toNat = 0 := by simp
     simp only [e3, e4, List.getElem_cons_zero]
    ·simp only [putM, hw, hw2]
     rw [dif_pos ⟨hk1, by omega, by simp⟩, dif_neg (by simp; omega), dif_pos ⟨hk1, by omega, by simp⟩, dif_neg (by simp; omega), hk, hc]
     simp only [List.length_cons, List.length_nil]
     congr 1
     rw [wrap64 (by omega) (by omega), wrap64 (by omega) (by omega)]
     omega
  ·have e1 : ∀ ws : List Tm, putM ws d (.mk k n r ks cs) = .mk k n r (putK ws d k 0 ks) (putC ws d cs) := fun ws => by
    simp only [putM]
    rw [dif_neg fun hh => by
     have := hv hh.1
     have h2 := hh.2.1
     rw [wrap64 (by omega) (by omega)] at h2
     exact h1 ⟨hh.1, by omega⟩]
   have e2 : putM [v] d (.mk k n r (putK vs d k 0 ks) (putC vs d cs)) = .mk k n r (putK [v] d k 0 (putK vs d k 0 ks)) (putC [v] d (putC vs d cs)) := by
    simp only [putM]
    rw [dif_neg fun hh => by
     have := hv hh.1
     have h2 := hh.2.1
     rw [wrap64 (by omega) (by omega)] at h2
     exact h1 ⟨hh.1, by omega⟩]
   rw [e1 (v :: vs), e1 vs, e2, hk, hc]
theorem putK_one (v : Tm) (vs : List Tm) (hl : vs.length < 2^40) (hvs : ∀ x ∈ vs, gdT 0 x ∧ tsize x < 2^40) : ∀ (ks : List Tm) (d e k : Int) (i : Nat), gdK e k i ks → 0 ≤ d → d + 2 + 2 * tsizeL ks ≤ 2^41 → e + 2 + 2 * tsizeL ks ≤ 2^42 →
  putK (v :: vs) d k i ks = putK [v] d k i (putK vs d k i ks)
 | [], _, _, _, _, _, _, _, _ => rfl
 | t :: ts, d, e, k, i, h, h0, hd, he => by
  simp only [tsizeL] at hd he
  have hm := more_b k i
  have hp := tsize_pos t
  simp only [putK]
  rw [put_one v vs hl hvs t (d + moreM k i) (e + moreM k i) h.1 (by omega) (by omega) (by omega), putK_one v vs hl hvs ts d e k (i + 1) h.2 h0 (by omega) (by omega)]
theorem putC_one (v : Tm) (vs : List Tm) (hl : vs.length < 2^40) (hvs : ∀ x ∈ vs, gdT 0 x ∧ tsize x < 2^40) : ∀ (cs : List Cs) (d e : Int), gdC e cs → 0 ≤ d → d + 2 * csizeL cs ≤ 2^41 → e + 2 * csizeL cs ≤ 2^42 →
  putC (v :: vs) d cs = putC [v] d (putC vs d cs)
 | [], _, _, _, _, _, _ => rfl
 | .mk q t :: cs, d, e, h, h0, hd, he => by
  simp only [csizeL, csize] at hd he
  have hb := binds_bound q
  simp only [putC, putS]
  rw [put_one v vs hl hvs t (d + bindsM q) (e + bindsM q) h.1.2 (by omega) (by omega) (by omega), putC_one v vs hl hvs cs d e h.2 h0 (by omega) (by omega)]
end
end Go.Proofs.YtkcgkignhpepkaaGreatDoor

/- The way filled is a part set. -/
namespace Go.Proofs.YtkcgkignhpepkaaGreatDoor
open Go Hs
theorem fill_cons (t : Tm) (j : Nat) (way : List Tm) (q : List Nat) : ∀ (m : Nat) (y : Tm), m ≤ way.length → m ≤ q.length → fillM (t :: way) (j :: q) 0 (m + 1) y = setKid t j (fillM way q 0 m y)
 | 0, y, _, _ => by simp [fillM]
 | m + 1, y, h1, h2 => by
  have e1 : fillM (t :: way) (j :: q) 0 (m + 1 + 1) y = fillM (t :: way) (j :: q) 0 (m + 1) (setKid way[m] q[m] y) := by
   rw [fillM]
   simp [List.getElem?_eq_getElem (show m < way.length by omega), List.getElem?_eq_getElem (show m < q.length by omega)]
  have e2 : fillM way q 0 (m + 1) y = fillM way q 0 m (setKid way[m] q[m] y) := by
   rw [fillM]
   simp [List.getElem?_eq_getElem (show m < way.length by omega), List.getElem?_eq_getElem (show m < q.length by omega)]
  rw [e1, e2, fill_cons t j way q m _ (by omega) (by omega)]
theorem fill_set : ∀ {p : List Nat} {t : Tm} (n : Nat) (y : Tm), okP t p → n ≤ p.length → fillM (wayM t p) p 0 n y = setM t (p.take n) y
 | [], t, n, y, _, h => by
  have : n = 0 := by simpa using h
  subst this
  simp [fillM, setM]
 | j :: q, t, 0, y, _, _ => by simp [fillM, setM]
 | j :: q, t, n + 1, y, ⟨x, hx, hok⟩, h => by
  simp only [List.length_cons] at h
  have hw : wayM t (j :: q) = t :: wayM x q := by simp [wayM, hx]
  rw [hw, fill_cons t j _ q n y (by rw [way_len hok]; omega) (by omega), fill_set n y hok (by omega)]
  simp [setM, hx]
theorem fill_drop (way : List Tm) (path : List Nat) (lo : Nat) : ∀ (m : Nat) (y : Tm), lo + m ≤ way.length → lo + m ≤ path.length → fillM way path lo (lo + m) y = fillM (way.drop lo) (path.drop lo) 0 m y
 | 0, y, _, _ => by
  cases lo with
  | zero => rfl
  | succ l => simp [fillM]
 | m + 1, y, h1, h2 => by
  have e1 : fillM way path lo (lo + (m + 1)) y = fillM way path lo (lo + m) (setKid way[lo + m] path[lo + m] y) := by
   rw [show lo + (m + 1) = (lo + m) + 1 by omega, fillM, if_neg (by omega)]
   simp [List.getElem?_eq_getElem (show lo + m < way.length by omega), List.getElem?_eq_getElem (show lo + m < path.length by omega)]
  have e2 : fillM (way.drop lo) (path.drop lo) 0 (m + 1) y = fillM (way.drop lo) (path.drop lo) 0 m (setKid way[lo + m] path[lo + m] y) := by
   rw [fillM]
   simp [List.getElem?_drop, List.getElem?_eq_getElem (show lo + m < way.length by omega), List.getElem?_eq_getElem (show lo + m < path.length by omega)]
  rw [e1, e2, fill_drop way path lo m _ (by omega) (by omega)]
theorem way_drop : ∀ {p : List Nat} {t : Tm} (n : Nat), okP t p → n ≤ p.length → (wayM t p).drop n = wayM (walkM t (p.take n)) (p.drop n) ∧ okP (walkM t (p.take n)) (p.drop n)
 | p, t, 0, h, _ => by simp only [List.drop_zero, List.take_zero, walkM]; exact ⟨trivial, h⟩
 | [], t, n + 1, _, h => by simp at h
 | j :: q, t, n + 1, ⟨x, hx, hok⟩, h => by
  simp only [List.length_cons] at h
  obtain ⟨h1, h2⟩ := way_drop n hok (by omega)
  simp only [wayM, hx, List.drop_succ_cons, List.take_succ_cons, walkM]
  exact ⟨h1, h2⟩
theorem fill_from {p : List Nat} {t : Tm} {n : Nat} (y : Tm) (hok : okP t p) (hn : n ≤ p.length) : fillM (wayM t p) p n p.length y = setM (walkM t (p.take n)) (p.drop n) y := by
 obtain ⟨h1, h2⟩ := way_drop n hok hn
 have := fill_drop (wayM t p) p n (p.length - n) y (by rw [way_len hok]; omega) (by omega)
 rw [show n + (p.length - n) = p.length by omega] at this
 rw [this, h1, fill_set _ y h2 (by simp)]
 congr 1
 rw [← List.length_drop, List.take_length]
theorem here_set {p : List Nat} {t : Tm} (y : Tm) (hok : okP t p) : hereM t p y = setM t p y := by
 unfold hereM
 rw [fill_set p.length y hok (Nat.le_refl _), List.take_length]
end Go.Proofs.YtkcgkignhpepkaaGreatDoor

/- A step makes right terms of right terms. -/
namespace Go.Proofs.YtkcgkignhpepkaaGreatDoor
open Go Hs
theorem gdK_set : ∀ {ks : List Tm} {d k : Int} {i j : Nat} {x : Tm}, gdK d k i ks → gdT (d + moreM k ((i + j : Nat) : Int)) x → gdK d k i (ks.set j x)
 | [], _, _, _, _, _, _, _ => trivial
 | t :: ts, d, k, i, 0, x, h, hx => ⟨hx, h.2⟩
 | t :: ts, d, k, i, j + 1, x, h, hx => ⟨h.1, gdK_set (i := i + 1) (j := j) h.2 (by rwa [show i + 1 + j = i + (j + 1) by omega])⟩
def freeP (t : Tm) (p : List Nat) : Prop := ∀ i (_ : i < p.length), moreM (walkM t (p.take i)).kind ((p[i]'(by assumption) : Nat) : Int) = 0
theorem freeP_cons {t x : Tm} {j : Nat} {q : List Nat} (h : freeP t (j :: q)) (hx : t.kids[j]? = some x) : moreM t.kind (j : Nat) = 0 ∧ freeP x q := by
 refine ⟨h 0 (by simp), fun i hi => ?_⟩
 have := h (i + 1) (by simpa using hi)
 simpa only [List.take_succ_cons, walkM, hx, List.getElem_cons_succ] using this
theorem freeP_place (t : Tm) : freeP t (placeM t) := fun i hi => place_more _ t (Nat.le_refl _) i hi
theorem freeP_take {t : Tm} {p : List Nat} (h : freeP t p) (n : Nat) : freeP t (p.take n) := fun i hi => by
 have hl : i < p.length := by simp at hi; omega
 have hn : i < n := by simp at hi; omega
 have := h i hl
 rw [List.take_take, Nat.min_eq_left (by omega), List.getElem_take];exact this
theorem walk_take : ∀ {p : List Nat} {t : Tm} (n i : Nat), okP t p → n + i ≤ p.length → walkM (walkM t (p.take n)) ((p.drop n).take i) = walkM t (p.take (n + i))
 | p, t, 0, i, _, _ => by simp [walkM]
 | [], t, n + 1, i, _, h => by simp at h
 | j :: q, t, n + 1, i, ⟨x, hx, hok⟩, h => by
  simp only [List.length_cons] at h
  rw [show n + 1 + i = (n + i) + 1 by omega]
  simp only [List.take_succ_cons, List.drop_succ_cons, walkM, hx]
  exact walk_take n i hok (by omega)
theorem freeP_drop {t : Tm} {p : List Nat} (h : freeP t p) (hok : okP t p) (n : Nat) (hn : n ≤ p.length) : freeP (walkM t (p.take n)) (p.drop n) := fun i hi => by
 have hl : n + i < p.length := by simp at hi; omega
 rw [walk_take n i hok (by omega), List.getElem_drop];exact h (n + i) hl
theorem set_gd {y : Tm} : ∀ {p : List Nat} {t : Tm} {d : Int}, freeP t p → gdT d t → gdT d y → gdT d (setM t p y)
 | [], _, _, _, _, hy => hy
 | j :: q, .mk k n r ks cs, d, hf, h, hy => by
  simp only [setM]
  split
  ·rename_i x hx
   obtain ⟨h0, hq⟩ := freeP_cons hf hx
   simp only [kind_mk] at h0
   simp only [kids_mk] at hx
   have hg := gdK_mem h.2.2.2.2.1 hx
   rw [Nat.zero_add, h0, Int.add_zero] at hg
   refine ⟨h.1, by rw [List.length_set]; exact h.2.1, h.2.2.1, h.2.2.2.1, gdK_set h.2.2.2.2.1 ?_, h.2.2.2.2.2⟩
   rw [Nat.zero_add, h0, Int.add_zero];exact set_gd hq hg hy
  ·exact h
theorem gd_nat (n d : Int) : gdT d (natM n) := ⟨⟨by omega, by omega, by omega⟩, by simp [kidsM], fun h => by omega, fun h => by omega, trivial, trivial⟩
theorem gd_var : gdT 1 varM := ⟨⟨by omega, by omega, by omega⟩, by simp [kidsM], fun h => by omega, fun _ => by omega, trivial, trivial⟩
theorem more_app (i : Nat) : moreM 4 (i : Int) = 0 := by unfold moreM; rw [if_neg (by omega), if_neg (by omega)]
theorem more_let0 {k : Int} (h : k = 5 ∨ k = 12 ∨ k = 9 ∨ k = 11) : moreM k ((0 : Nat) : Int) = 0 := by unfold moreM; rw [if_neg (by omega), if_neg (by omega)]
theorem more_let1 {k : Int} (h : k = 5 ∨ k = 12) : moreM k ((1 : Nat) : Int) = 1 := by unfold moreM; rw [if_pos (by omega)]
theorem more_han {i : Nat} (h : 2 ≤ i) : moreM 12 (i : Int) = 2 := by unfold moreM; rw [if_neg (by omega), if_pos (by omega)]
theorem put1_gd {x b : Tm} (hx : gdT 0 x) (hb : gdT 1 b) (hz : tsize b < 2^40) : gdT 0 (putM [x] 0 b) :=
 put_gd [x] (fun v hv => by simp at hv; subst hv; exact hx) b 0 (by omega) (by simp; omega) (by simpa using hb)
theorem app_gd {w f x b : Tm} (hw : gdT 0 w) (hk : w.kind = 4) (h0 : w.kids[0]? = some f) (hf : f.kind = 3) (h1 : w.kids[1]? = some x) (hb : f.kids[0]? = some b) : gdT 0 x ∧ gdT 1 b := by
 have e0 := gd_kid hw h0
 have e1 := gd_kid hw h1
 rw [hk, more_app, Int.add_zero] at e0 e1
 have e2 := gd_kid e0 hb
 rw [hf] at e2
 exact ⟨e1, by simpa [moreM] using e2⟩
theorem let_gd {w x b : Tm} (hw : gdT 0 w) (hk : w.kind = 5 ∨ w.kind = 12) (h0 : w.kids[0]? = some x) (h1 : w.kids[1]? = some b) : gdT 0 x ∧ gdT 1 b := by
 have e0 := gd_kid hw h0
 have e1 := gd_kid hw h1
 rw [more_let0 (by omega), Int.add_zero] at e0
 rw [more_let1 hk] at e1
 exact ⟨e0, by simpa using e1⟩
end Go.Proofs.YtkcgkignhpepkaaGreatDoor

/- The reference: numbers, and what is right. -/
namespace Go.Proofs.YtkcgkignhpepkaaGreatDoor
open Go Hs
variable {G : List (Nat × TypeId × Pu)}
theorem prim_zero {op a b : Int} (h0 : ¬ op = 1) (h1 : ¬ op = 2) (h2 : ¬ op = 3) (h3 : op = 4 → ¬ a = b) (h4 : op = 5 → b ≤ a) : capM (primV op a b) = 0 := by
 have e : primV op a b = 0 := by
  unfold primV
  rw [if_neg h0, if_neg h1, if_neg h2]
  by_cases h : op = 4
  ·rw [if_pos h, if_neg (h3 h)]
  ·rw [if_neg h]
   by_cases h' : op = 5
   ·rw [if_pos h', if_neg (by have := h4 h'; omega)]
   ·rw [if_neg h']
 rw [e]; rfl
theorem rnumber_c (op a b : Int) : FCall Tryz.prog G 182 [iv .i64 op, iv .i64 a, iv .i64 b] (iv .i64 (capM (primV op a b))) := by
 refine FCall.of_tri tbl 44 Tryz.func182 rfl rfl rfl fun w0 M ρ0 D0 => ?_
 refine Y19 ?_;refine Y8 ?_;refine Tri.block ?_;refine Y56 ?_;refine Tri.cond rfl (fun h0 => ?_) (fun h0 => ?_)
 ·skip
  refine Y52 ?_;refine Y10 ?_;refine Y1 ?_;refine s_val (v_maxD) ?_;refine s_val (v_minD) ?_;refine Y2 ?_;exact Tri.ret ⟨.inr rfl, ret1 rfl resV_tmp (iv_imp (by first | (simp_all [primV, capM]; done) | (rw [prim_zero (by simp_all) (by simp_all) (by simp_all) (by simp_all) (by simp_all)]; rfl)))⟩
 ·skip
  refine Y56 ?_;refine Tri.cond rfl (fun h1 => ?_) (fun h1 => ?_)
  ·skip
   refine Y52 ?_;refine Y10 ?_;refine Y1 ?_;refine s_val (v_maxD) ?_;refine s_val (v_minD) ?_;refine Y2 ?_;exact Tri.ret ⟨.inr rfl, ret1 rfl resV_tmp (iv_imp (by first | (simp_all [primV, capM]; done) | (rw [prim_zero (by simp_all) (by simp_all) (by simp_all) (by simp_all) (by simp_all)]; rfl)))⟩
  ·skip
   refine Y56 ?_;refine Tri.cond rfl (fun h2 => ?_) (fun h2 => ?_)
   ·skip
    refine Y52 ?_;refine Y10 ?_;refine Y1 ?_;refine s_val (v_maxD) ?_;refine s_val (v_minD) ?_;refine Y2 ?_;exact Tri.ret ⟨.inr rfl, ret1 rfl resV_tmp (iv_imp (by first | (simp_all [primV, capM]; done) | (rw [prim_zero (by simp_all) (by simp_all) (by simp_all) (by simp_all) (by simp_all)]; rfl)))⟩
   ·skip
    refine Y44 ?_;refine xM ?_;refine Y51 ?_;refine Tri.cond rfl (fun h3 => ?_) (fun h3 => ?_)
    ·skip
     refine Tri.skip ?_;refine tQ ?_;refine Tri.cond rfl (fun h4 => ?_) (fun h4 => ?_)
     ·skip
      refine Y48 ?_;refine s_val (v_maxD) ?_;refine s_val (v_minD) ?_;refine Y2 ?_;exact Tri.ret ⟨.inr rfl, ret1 rfl resV_tmp (iv_imp (by first | (simp_all [primV, capM]; done) | (rw [prim_zero (by simp_all) (by simp_all) (by simp_all) (by simp_all) (by simp_all)]; rfl)))⟩
     ·skip
      refine Tri.skip ?_;refine Y1 ?_;refine s_val (v_maxD) ?_;refine s_val (v_minD) ?_;refine Y2 ?_;exact Tri.ret ⟨.inr rfl, ret1 rfl resV_tmp (iv_imp (by first | (simp_all [primV, capM]; done) | (rw [prim_zero (by simp_all) (by simp_all) (by simp_all) (by simp_all) (by simp_all)]; rfl)))⟩
    ·skip
     refine Y44 ?_;refine xM ?_;refine Y51 ?_;refine Tri.cond rfl (fun h4 => ?_) (fun h4 => ?_)
     ·skip
      refine Y48 ?_;refine s_val (v_maxD) ?_;refine s_val (v_minD) ?_;refine Y2 ?_;exact Tri.ret ⟨.inr rfl, ret1 rfl resV_tmp (iv_imp (by first | (simp_all [primV, capM]; done) | (rw [prim_zero (by simp_all) (by simp_all) (by simp_all) (by simp_all) (by simp_all)]; rfl)))⟩
     ·skip
      refine Tri.skip ?_;refine Y1 ?_;refine s_val (v_maxD) ?_;refine s_val (v_minD) ?_;refine Y2 ?_;exact Tri.ret ⟨.inr rfl, ret1 rfl resV_tmp (iv_imp (by first | (simp_all [primV, capM]; done) | (rw [prim_zero (by simp_all) (by simp_all) (by simp_all) (by simp_all) (by simp_all)]; rfl)))⟩
theorem rright_c (t : Tm) (hN : tsize t < 2^40) : FCall Tryz.prog G 117 [.pu (tmc 0 t)] (iv .i64 (if (longT 300 60 1 0 t).1 then 11 else 0)) := by
 have he := ext_long (mn := 300) (md := 60) (most := 400) t (by omega)
 refine FCall.of_tri tbl 16 Tryz.func117 rfl rfl rfl fun w0 M ρ0 D0 => ?_
 refine yR ?_;refine s_box SS 1 ?_;refine yB ?_;refine e_seqN [1] ?_;refine Y6 ?_;refine s_val (v_callD (fun _ => rextent_c _ t (Nat.le_refl _) hN 400 (by omega))) ?_;refine Y65 ?_;refine Y10 ?_;refine Y44 ?_;refine Y59 ?_;refine Tri.cond rfl (fun h0 => ?_) (fun h0 => ?_)
 ·skip
  refine Y8 ?_;exact Tri.ret ⟨.inr rfl, ret1 rfl resV_tmp (iv_imp (by rw [← he, h0]; rfl))⟩
 ·skip
  refine Tri.skip ?_;refine Y8 ?_;exact Tri.ret ⟨.inr rfl, ret1 rfl resV_tmp (iv_imp (by rw [← he, h0]; rfl))⟩
end Go.Proofs.YtkcgkignhpepkaaGreatDoor

/- A step makes a right term of a right one. -/
namespace Go.Proofs.YtkcgkignhpepkaaGreatDoor
open Go Hs
theorem way_at {t : Tm} {p : List Nat} (hok : okP t p) {n : Nat} (hn : n ≤ p.length) {x : Tm} (h : (wayM t p)[n]? = some x) : x = walkM t (p.take n) := by
 rw [way_get hok hn] at h
 exact (Option.some.inj h).symm
theorem hand_at : ∀ (way : List Tm) (r : List Int) (n : Nat), 0 ≤ handM way r n → ∃ x, way[(handM way r n).toNat]? = some x ∧ x.kind = 12 ∧ x.ref = r ∧ (handM way r n).toNat < n
 | way, r, 0, h => by simp [handM] at h
 | way, r, n + 1, h => by
  cases hx : way[n]? with
  | none =>
   have e : handM way r (n + 1) = handM way r n := by simp only [handM, hx]
   rw [e] at h ⊢
   obtain ⟨y, h1, h2, h3, h4⟩ := hand_at way r n h
   exact ⟨y, h1, h2, h3, by omega⟩
  | some x =>
   by_cases hc : (x.kind == 12 && x.ref == r) = true
   ·have e : handM way r (n + 1) = n := by simp only [handM, hx, if_pos hc]
    rw [e, Int.toNat_natCast]
    simp at hc
    exact ⟨x, hx, hc.1, hc.2, by omega⟩
   ·have e : handM way r (n + 1) = handM way r n := by simp only [handM, hx, if_neg hc]
    rw [e] at h ⊢
    obtain ⟨y, h1, h2, h3, h4⟩ := hand_at way r n h
    exact ⟨y, h1, h2, h3, by omega⟩
theorem gd_at {t : Tm} {p : List Nat} (hg : gdT 0 t) (hf : freeP t p) (n : Nat) : gdT 0 (walkM t (p.take n)) := gd_walk hg (freeP_take hf n)
theorem back_gd {t : Tm} {p : List Nat} (hg : gdT 0 t) (hok : okP t p) (hf : freeP t p) {n : Nat} (hn : n ≤ p.length) : gdT 0 (backM t p n) := by
 refine ⟨⟨by omega, by omega, by omega⟩, by simp [kidsM], fun h => by omega, fun h => by omega, ⟨?_, trivial⟩, trivial⟩
 rw [fill_from varM hok hn]
 have : moreM 3 ((0 : Nat) : Int) = 1 := by simp [moreM]
 rw [this];exact set_gd (freeP_drop hf hok n hn) (gd_mono (by omega) (gd_at hg hf n)) gd_var
end Go.Proofs.YtkcgkignhpepkaaGreatDoor

/- A step makes a right term of a right one. -/
namespace Go.Proofs.YtkcgkignhpepkaaGreatDoor
open Go Hs
theorem bod_some {s : List Int} {y : Tm} : ∀ {ts : List KT}, bodM s ts = some y → ∃ x ∈ ts, x.2 = y
 | [], h => by simp [bodM] at h
 | x :: ts, h => by
  simp only [bodM] at h
  split at h
  ·simp at h; exact ⟨x, by simp, h⟩
  ·obtain ⟨z, h1, h2⟩ := bod_some h
   exact ⟨z, by simp [h1], h2⟩
theorem kind5 {ts : List KT} {way : List Tm} {len : Nat} {w : Tm} (h : kindW ts way len w = 5) : w.kind = 9 ∧ ∃ v, w.kids[0]? = some v ∧ ((matchM w.cases v).kind != 0) = true := by
 have hk := (kind_inv h).2.2.2.2.1 rfl
 obtain ⟨k, n, r, ks, cs⟩ := w
 simp only [kind_mk] at hk
 subst hk
 refine ⟨rfl, ?_⟩
 simp only [kindW] at h
 simp at h
 simp only [kids_mk]
 cases hf : ks[0]? with
 | none => simp [hf] at h
 | some f =>
  refine ⟨f, rfl, ?_⟩
  simp only [hf] at h
  show ((matchM cs f).kind != 0) = true
  generalize hb : ((matchM cs f).kind != 0) = bb at h
  cases bb
  ·simp at h
  ·rfl
theorem does_gd {ts : List KT} {t : Tm} {p : List Nat} (hg : gdT 0 t) (hok : okP t p) (hf : freeP t p) (hN : tsize t < 2^28) (hb : ∀ x ∈ ts, gdT 0 x.2) {k : Int} (hk : kindM ts t p = k) (hk7 : k ≤ 7) : gdT 0 (doesM ts t p k) := by
 have hw := gd_walk hg hf
 have hws : tsize (walkM t p) ≤ tsize t := walk_size
 have hsh := gd_sh hw
 obtain ⟨i1, i2, i3, i4, i5, i6, i7, ⟨i8, _⟩, _⟩ := kind_inv hk
 have put : ∀ {y : Tm}, gdT 0 y → gdT 0 (hereM t p y) := fun {y} hy => by rw [here_set y hok]; exact set_gd hf hg hy
 have let' : (walkM t p).kind = 5 ∨ (walkM t p).kind = 12 → gdT 0 (letM (walkM t p)) := fun hkk => by
  obtain ⟨x, b, h0, h1⟩ : ∃ x b, (walkM t p).kids[0]? = some x ∧ (walkM t p).kids[1]? = some b := by
   rcases hkk with hkk | hkk
   ·exact len2 hsh (by omega)
   ·exact len12 hsh hkk
  obtain ⟨g1, g2⟩ := let_gd hw hkk h0 h1
  have := kid_size h1
  simp only [letM, h0, h1]
  exact put1_gd g1 g2 (by omega)
 unfold doesM
 by_cases e1 : k = 1
 ·rw [if_pos e1]
  obtain ⟨hk4, f, h0, hf3⟩ := i1 e1
  obtain ⟨f', x, h0', h1⟩ := len2 hsh (by omega)
  obtain rfl : f' = f := Option.some.inj (h0'.symm.trans h0)
  have hfs := gd_sh (gd_kid hw h0)
  obtain ⟨b, hb0⟩ := len1 hfs (by omega)
  obtain ⟨g1, g2⟩ := app_gd hw hk4 h0 hf3 h1 hb0
  have := kid_size h0
  have := kid_size hb0
  refine put ?_
  simp only [appM, h0, h1, hb0]
  exact put1_gd g1 g2 (by omega)
 rw [if_neg e1]
 by_cases e2 : k = 2
 ·rw [if_pos e2]; exact put (let' (.inl (i2 e2)))
 rw [if_neg e2]
 by_cases e3 : k = 3
 ·rw [if_pos e3]
  obtain ⟨_, h⟩ := i3 e3
  obtain ⟨y, hy⟩ := Option.isSome_iff_exists.1 h
  obtain ⟨x, hx, rfl⟩ := bod_some hy
  rw [hy];exact put (hb x hx)
 rw [if_neg e3]
 by_cases e4 : k = 4
 ·rw [if_pos e4]
  obtain ⟨x, y, h0, h1⟩ := len2 hsh (by have := i4 e4; omega)
  refine put ?_
  simp only [priM, h0, h1]
  exact gd_nat _ _
 rw [if_neg e4]
 by_cases e5 : k = 5
 ·rw [if_pos e5]
  subst e5
  obtain ⟨hk9, v, h0, hm⟩ := kind5 hk
  have hv := gd_kid hw h0
  rw [more_let0 (by omega), Int.add_zero] at hv
  have hvs := kid_size h0
  refine put ?_
  simp only [matM, h0]
  generalize walkM t p = w at *
  obtain ⟨wk, wn, wr, ks, cs⟩ := w
  have hc := hw.2.2.2.2.2
  simp only [tsize] at hws hvs
  have hz : (tsize v : Int) + 2 * csizeL cs ≤ 2^50 := by omega
  rw [show (Tm.mk wk wn wr ks cs).cases = cs from rfl] at hm ⊢
  rw [match_kind hv hc (by omega)] at hm
  exact match_gd hv hc (by omega) hm
 rw [if_neg e5]
 by_cases e6 : k = 6
 ·rw [if_pos e6]
  obtain ⟨hk11, hn0, x, hx, hxl⟩ := i6 e6
  obtain ⟨y, hy, hy12, _, hnl⟩ := hand_at _ _ _ hn0
  obtain rfl : y = x := Option.some.inj (hy.symm.trans hx)
  obtain ⟨a, ha⟩ := len1 hsh (by omega)
  have hga := gd_kid hw ha
  rw [more_let0 (by omega), Int.add_zero] at hga
  have hnum : 0 ≤ (walkM t p).num := by
   generalize walkM t p = w at *
   obtain ⟨wk, wn, wr, ks, cs⟩ := w
   exact (hw.2.2.1 hk11).1
  have hxw := way_at hok (by omega) hx
  have hgx := gd_at hg hf (handM (wayM t p) (walkM t p).ref p.length).toNat
  rw [← hxw] at hgx
  obtain ⟨b, hbk⟩ : ∃ b, y.kids[(2 + (walkM t p).num).toNat]? = some b := ⟨_, List.getElem?_eq_getElem (by omega)⟩
  have hgb := gd_kid hgx hbk
  rw [hy12, more_han (by omega)] at hgb
  have hbs := kid_size hbk
  have hys : tsize y ≤ tsize t := by rw [hxw]; exact walk_size
  unfold doM
  rw [ha, ← hxw, hbk]
  simp only
  rw [fill_set _ _ hok (by omega)];refine set_gd (freeP_take hf _) hg (put_gd _ (fun v hv => ?_) b 0 (by omega) (by simp; omega) (by simpa using hgb))
  simp only [List.mem_cons, List.not_mem_nil, or_false] at hv
  rcases hv with rfl | rfl
  ·exact hga
  ·exact back_gd hg hok hf (by omega)
 rw [if_neg e6];exact put (let' (.inr (i7 (by omega))))
end Go.Proofs.YtkcgkignhpepkaaGreatDoor

/- Values put where more variables are free; the case that fits. -/
namespace Go.Proofs.YtkcgkignhpepkaaGreatDoor
open Go Hs
mutual
theorem put_gd2 (vs : List Tm) (hvs : ∀ v ∈ vs, gdT 0 v) : ∀ (t : Tm) (d e : Int), 0 ≤ d → d ≤ e → e + vs.length + 2 * tsize t ≤ 2^60 → gdT (e + vs.length) t → gdT e (putM vs d t)
 | .mk k n r ks cs, d, e, hd, hde, hz, h => by
  simp only [tsize] at hz
  obtain ⟨h1, h2, h3, h4, h5, h6⟩ := h
  have hK := putK_gd2 vs hvs ks d e k 0 hd hde (by omega) h5
  have hC := putC_gd2 vs hvs cs d e hd hde (by omega) h6
  simp only [putM]
  split
  ·rename_i hc
   have hn := h4 hc.1
   have hw : IntKind.wrap .i64 (n - d) = n - d := wrap64 (by omega) (by omega)
   split
   ·exact gd_mono (by omega) (hvs _ (List.getElem_mem _))
   ·rename_i hlt
    rw [hw] at hlt
    refine ⟨h1, by rw [putK_len]; exact h2, fun hk => by omega, fun _ => ?_, hK, hC⟩
    rw [wrap64 (by omega) (by omega)]
    omega
  ·rename_i hc
   refine ⟨h1, by rw [putK_len]; exact h2, h3, fun hk => ?_, hK, hC⟩
   have hn := h4 hk
   refine ⟨hn.1, ?_⟩
   by_cases hv : 0 < vs.length
   ·have : ¬ 0 ≤ IntKind.wrap .i64 (n - d) := fun h0 => hc ⟨hk, h0, hv⟩
    rw [wrap64 (by omega) (by omega)] at this
    omega
   ·omega
theorem putK_gd2 (vs : List Tm) (hvs : ∀ v ∈ vs, gdT 0 v) : ∀ (ks : List Tm) (d e k : Int) (i : Nat), 0 ≤ d → d ≤ e → e + vs.length + 2 + 2 * tsizeL ks ≤ 2^60 → gdK (e + vs.length) k i ks → gdK e k i (putK vs d k i ks)
 | [], _, _, _, _, _, _, _, _ => trivial
 | t :: ts, d, e, k, i, hd, hde, hz, h => by
  simp only [tsizeL] at hz
  have hm := more_b k i
  simp only [putK]
  refine ⟨put_gd2 vs hvs t (d + moreM k i) (e + moreM k i) (by omega) (by omega) (by omega) ?_, putK_gd2 vs hvs ts d e k (i + 1) hd hde (by omega) h.2⟩
  rw [show e + moreM k i + (vs.length : Int) = e + vs.length + moreM k i by omega];exact h.1
theorem putC_gd2 (vs : List Tm) (hvs : ∀ v ∈ vs, gdT 0 v) : ∀ (cs : List Cs) (d e : Int), 0 ≤ d → d ≤ e → e + vs.length + 2 + 2 * csizeL cs ≤ 2^60 → gdC (e + vs.length) cs → gdC e (putC vs d cs)
 | [], _, _, _, _, _, _ => trivial
 | .mk q t :: cs, d, e, hd, hde, hz, h => by
  simp only [csizeL, csize] at hz
  have hm := binds_bound q
  simp only [putC, putS]
  refine ⟨⟨h.1.1, ?_⟩, putC_gd2 vs hvs cs d e hd hde (by omega) h.2⟩
  have h1 : gdT (e + vs.length + bindsM q) t := h.1.2
  show gdT (e + bindsM q) (putM vs (d + bindsM q) t)
  exact put_gd2 vs hvs t (d + bindsM q) (e + bindsM q) (by omega) (by omega) (by omega) (by rw [show e + bindsM q + (vs.length : Int) = e + vs.length + bindsM q by omega]; exact h1)
end
theorem fit_case {v : Tm} : ∀ {cs : List Cs} {o i : Nat} {l : List Tm}, fitI v cs o = some (i, l) → ∃ (j : Nat) (q : Pat) (b : Tm), i = o + j ∧ cs[j]? = some (.mk q b) ∧ l = (fitsM q v).1 ∧ (fitsM q v).2 = true ∧ matchM cs v = putM l 0 b
 | [], _, _, _, h => by simp [fitI] at h
 | .mk q b :: cs, o, i, l, h => by
  simp only [fitI] at h
  by_cases hc : (fitsM q v).2 = true
  ·rw [if_pos hc] at h
   simp at h
   obtain ⟨rfl, rfl⟩ := h
   exact ⟨0, q, b, rfl, rfl, rfl, hc, by simp only [matchM]; rw [if_pos hc]⟩
  ·rw [if_neg hc] at h
   obtain ⟨j, q', b', h1, h2, h3, h4, h5⟩ := fit_case h
   exact ⟨j + 1, q', b', by omega, by simpa using h2, h3, h4, by simp only [matchM]; rw [if_neg hc]; exact h5⟩
theorem drop_put {l : List Tm} {b : Tm} {e : Int} (hl : ∀ x ∈ l, gdT 0 x ∧ tsize x < 2^40) (hn : l.length < 2^40) (hb : gdT e b) (he : e ≤ 2^40) (hz : tsize b < 2^39) {j : Nat} (hj : j < l.length) :
  putM [l[j]] 0 (putM (l.drop (j + 1)) 0 b) = putM (l.drop j) 0 b := by
 rw [List.drop_eq_getElem_cons hj];exact (put_one l[j] (l.drop (j + 1)) (by simp; omega) (fun x hx => hl x (List.mem_of_mem_drop hx)) b 0 e hb (by omega) (by omega) (by omega)).symm
mutual
theorem put_none : ∀ (t : Tm) (d : Int), putM [] d t = t
 | .mk k n r ks cs, d => by
  simp only [putM]
  rw [dif_neg (fun h => absurd h.2.2 (by simp)), putK_none ks d k 0, putC_none cs d]
theorem putK_none : ∀ (ks : List Tm) (d k : Int) (i : Nat), putK [] d k i ks = ks
 | [], _, _, _ => rfl
 | t :: ts, d, k, i => by simp only [putK]; rw [put_none t, putK_none ts d k (i + 1)]
theorem putC_none : ∀ (cs : List Cs) (d : Int), putC [] d cs = cs
 | [], _ => rfl
 | .mk q t :: cs, d => by simp only [putC, putS]; rw [put_none t, putC_none cs d]
end
end Go.Proofs.YtkcgkignhpepkaaGreatDoor

/- The reference: the term behind a step. -/
namespace Go.Proofs.YtkcgkignhpepkaaGreatDoor
open Go Hs
variable {G : List (Nat × TypeId × Pu)}
theorem kid_get {lo : Nat} {ks : List Tm} {j : Nat} {x : Tm} (h : ks[j]? = some x) : (tmsc lo ks)[j]? = some (tmc lo x) := by simp [tms_eq, h]
theorem does1 {ts : List KT} {t : Tm} {p : List Nat} (hok : okP t p) : doesM ts t p 1 = setM t p (appM (walkM t p)) := by unfold doesM; rw [if_pos rfl, here_set _ hok]
theorem does27 {ts : List KT} {t : Tm} {p : List Nat} (hok : okP t p) {k : Int} (h : k = 2 ∨ k = 7) : doesM ts t p k = setM t p (letM (walkM t p)) := by
 unfold doesM
 rcases h with rfl | rfl
 ·rw [if_neg (by omega), if_pos rfl, here_set _ hok]
 ·rw [if_neg (by omega), if_neg (by omega), if_neg (by omega), if_neg (by omega), if_neg (by omega), if_neg (by omega), here_set _ hok]
theorem does3 {ts : List KT} {t : Tm} {p : List Nat} (hok : okP t p) : doesM ts t p 3 = setM t p ((bodM (walkM t p).ref ts).getD noneM) := by unfold doesM; rw [if_neg (by omega), if_neg (by omega), if_pos rfl, here_set _ hok]
theorem does4 {ts : List KT} {t : Tm} {p : List Nat} (hok : okP t p) : doesM ts t p 4 = setM t p (priM (walkM t p)) := by unfold doesM; rw [if_neg (by omega), if_neg (by omega), if_neg (by omega), if_pos rfl, here_set _ hok]
theorem does5 {ts : List KT} {t : Tm} {p : List Nat} (hok : okP t p) : doesM ts t p 5 = setM t p (matM (walkM t p)) := by unfold doesM; rw [if_neg (by omega), if_neg (by omega), if_neg (by omega), if_neg (by omega), if_pos rfl, here_set _ hok]
theorem does6 {ts : List KT} {t : Tm} {p : List Nat} : doesM ts t p 6 = doM t p := by unfold doesM; rw [if_neg (by omega), if_neg (by omega), if_neg (by omega), if_neg (by omega), if_neg (by omega), if_pos rfl]
theorem bod_idx {s : List Int} {y : Tm} : ∀ {ts : List KT}, bodM s ts = some y → ∃ (j : Nat) (h : j < ts.length), (ts[j]).2 = y ∧ fndM s ts = (j : Int)
 | [], h => by simp [bodM] at h
 | x :: ts, h => by
  simp only [bodM] at h
  by_cases hc : s = x.1
  ·rw [if_pos hc] at h
   exact ⟨0, by simp, by simpa using h, by simp [fndM, List.findIdx?_cons, hc]⟩
  ·rw [if_neg hc] at h
   obtain ⟨j, h1, h2, h3⟩ := bod_idx h
   refine ⟨j + 1, by simp; omega, by simpa using h2, ?_⟩
   have hc' : (x.1 == s) = false := by simpa using fun e => hc e.symm
   simp only [fndM] at h3 ⊢
   rw [List.findIdx?_cons, hc']
   cases hq : ts.findIdx? (fun x => x.1 == s) with
   | none => rw [hq] at h3; simp only at h3; omega
   | some i => rw [hq] at h3; simp only at h3 ⊢; simp; omega
theorem ok_take : ∀ {p : List Nat} {t : Tm}, okP t p → ∀ m, okP t (p.take m)
 | [], t, _, m => by simp [okP]
 | j :: q, t, _, 0 => by simp [okP]
 | j :: q, t, ⟨x, hx, h⟩, m + 1 => ⟨x, hx, ok_take h m⟩
set_option maxHeartbeats 4000000 in
theorem rafter_c (a b : Pu) (ts : List KT) (hts : ts.length < 2^40) (t : Tm) (p : List Nat) (hg : gdT 0 t) (hok : okP t p) (hf : freeP t p) (hN : tsize t ≤ 3000) (hz : ∀ i (hi : i < p.length), (walkM t (p.take i)).kind = 12 → p[i] = 0)
  (hb : ∀ x ∈ ts, gdT 0 x.2 ∧ tsize x.2 < 2^28) (kd : Int) (hk : kindM ts t p = kd) (hk7 : kd ≤ 7) :
  FCall Tryz.prog G 116 [.pu (wdP a b ts), .pu (tmc 0 t), iv .i64 kd, .pu (.sl 0 3 (pathL p))] (.pu (tmc 0 (doesM ts t p kd))) := by
 have hpl := path_size hok
 have hw := gd_walk hg hf
 have hws : tsize (walkM t p) ≤ tsize t := walk_size
 have hsh := gd_sh hw
 have hki := kind_inv hk
 have hset := fun y => rset_c (G := G) y p t hok (by omega) (by omega)
 have hat := rat_c (G := G) t p hok (by omega)
 obtain ⟨w, hwe⟩ : ∃ w, w = walkM t p := ⟨_, rfl⟩
 rw [← hwe] at hw hws hsh hki hat
 obtain ⟨k, n, r, ks, cs⟩ := w
 refine FCall.of_tri tbl 142 Tryz.func116 rfl rfl rfl fun w0 M ρ0 D0 => ?_
 refine yR ?_;refine s_box SS 4 ?_;refine s_box SS 5 ?_;refine s_alloc SS 8 ?_;refine e_seqN [4, 5, 8] ?_;refine Y54 ?_;refine s_val (v_callD (fun _ => hat)) ?_;refine s_alloc SS 9 ?_;refine yS ?_;refine e_seqN [9] ?_;refine yR ?_;refine s_alloc SS 10 ?_;refine e_seqN [10] ?_;refine Y1 ?_;refine Y0 ?_;refine Tri.block ?_;refine Y15 ?_;refine Tri.cond rfl (fun h0 => ?_) (fun h0 => ?_)
 ·skip
  have e0 : kd = 1 := by simpa using h0
  obtain ⟨hk4, f, g0, hf3⟩ := hki.1 e0
  obtain ⟨f', x, g0', g1⟩ := len2 hsh (by omega)
  obtain rfl : f' = f := Option.some.inj (g0'.symm.trans g0)
  obtain ⟨bb, gb⟩ := len1 (gd_sh (gd_kid hw g0)) (by omega)
  obtain ⟨hgx, hgb⟩ := app_gd hw hk4 g0 hf3 g1 gb
  have hzx := kid_size g1
  have hzf := kid_size g0
  have hzb := kid_size gb
  have hfin := hset (putM [x] 0 bb)
  rw [show setM t p (putM [x] 0 bb) = doesM ts t p kd by rw [e0, does1 hok, ← hwe]; simp only [appM, g0, g1, gb]] at hfin
  obtain ⟨fk, fn, fr, fks, fcs⟩ := f'
  simp only [kids_mk] at g0 g1 gb
  refine Y14 ?_;refine s_val (v_index SS (h0 := by omega) (hp := kid_get g0)) ?_;refine Y7 ?_;refine s_val (v_index SS (h0 := by omega) (hp := kid_get gb)) ?_;refine yL ?_;refine Y7 ?_;refine s_val (v_index SS (h0 := by omega) (hp := kid_get g1)) ?_;refine yL ?_;refine s_val (v_callD (fun _ => rinto_c x bb hgx (by omega) 1 hgb (by omega) (by omega))) ?_;refine yS ?_;refine e_draw ?_;refine Y54 ?_;refine yL ?_;refine s_val (v_callD (fun _ => hfin)) ?_;refine Y23 ?_;exact Tri.ret ⟨.inr rfl, ret1 rfl resV_cell (VImp.refl _)⟩
 ·skip
  refine Y15 ?_;refine Tri.cutT ⟨[(3, .pu (.sl 0 3 (pathL p))), (4, .ptr 4 [] 26), (5, .ptr 5 [] 32), (8, .ptr 8 [] 32), (9, .ptr 9 [] 32), (10, .ptr 10 [] 32), (21, iv .i64 kd), (36, bv (kd == 2 || kd == 7))], [(4, .var 26 (.pu (wdP a b ts))), (5, .var 32 (.pu (tmc 0 t))), (8, .var 32 (.agg 32 [iv .i64 0, iv .i64 0, .pu (refP Z32), .nilc, .nilc])), (9, .var 32 (.pu (tmc 0 (.mk k n r ks cs)))), (10, .var 32 (.agg 32 [iv .i64 0, iv .i64 0, .pu (refP Z32), .nilc, .nilc]))]⟩ ?_ ?_
  ·skip
   refine tQ ?_;refine Tri.cond rfl (fun h1 => ?_) (fun h1 => ?_)
   ·skip
    refine Tri.skip ?_;refine le_of ?_ ?_
    ·repeat (first | exact SubE.nil | refine SubE.cons rfl (by first | rfl | (rw [wrap64 (by omega) (by omega)]; rfl) | (simp only [*, Bool.true_or, Bool.or_true, Bool.false_or])) ?_)
    ·repeat (first | exact SubH.nil | refine SubH.cons rfl (by first | rfl | (rw [wrap64 (by omega) (by omega)]; rfl) | (simp only [*, Bool.true_or, Bool.or_true, Bool.false_or])) ?_)
   ·skip
    refine Y9 ?_;refine Y10 ?_;refine le_of ?_ ?_
    ·repeat (first | exact SubE.nil | refine SubE.cons rfl (by first | rfl | (rw [wrap64 (by omega) (by omega)]; rfl) | (simp only [*, Bool.true_or, Bool.or_true, Bool.false_or])) ?_)
    ·repeat (first | exact SubH.nil | refine SubH.cons rfl (by first | rfl | (rw [wrap64 (by omega) (by omega)]; rfl) | (simp only [*, Bool.true_or, Bool.or_true, Bool.false_or])) ?_)
  ·skip
   refine tQ ?_;refine Tri.cond rfl (fun h2 => ?_) (fun h2 => ?_)
   ·skip
    have e2 : kd = 2 ∨ kd = 7 := by simpa using h2
    have hkk : k = 5 ∨ k = 12 := e2.imp hki.2.1 hki.2.2.2.2.2.2.1
    obtain ⟨x, bb, g0, g1⟩ : ∃ x bb, ks[0]? = some x ∧ ks[1]? = some bb := by
     rcases hkk with h | h
     ·exact len2 hsh (.inr (.inl h))
     ·exact len12 hsh h
    obtain ⟨hgx, hgb⟩ := let_gd hw hkk g0 g1
    have hzx := kid_size (t := .mk k n r ks cs) g0
    have hzb := kid_size (t := .mk k n r ks cs) g1
    have hfin := hset (putM [x] 0 bb)
    rw [show setM t p (putM [x] 0 bb) = doesM ts t p kd by rw [does27 hok e2, ← hwe]; simp only [letM, kids_mk, g0, g1]] at hfin
    refine Y14 ?_;refine s_val (v_index SS (h0 := by omega) (hp := kid_get g1)) ?_;refine yL ?_;refine Y7 ?_;refine s_val (v_index SS (h0 := by omega) (hp := kid_get g0)) ?_;refine yL ?_;refine s_val (v_callD (fun _ => rinto_c x bb hgx (by omega) 1 hgb (by omega) (by omega))) ?_;refine yS ?_;refine e_draw ?_;refine Y54 ?_;refine yL ?_;refine s_val (v_callD (fun _ => hfin)) ?_;refine Y23 ?_;exact Tri.ret ⟨.inr rfl, ret1 rfl resV_cell (VImp.refl _)⟩
   ·skip
    refine Y15 ?_;refine Tri.cond rfl (fun h3 => ?_) (fun h3 => ?_)
    ·skip
     have e3 : kd = 3 := by simpa using h3
     obtain ⟨hk6, hbs⟩ := hki.2.2.1 e3
     obtain ⟨y, hy⟩ := Option.isSome_iff_exists.1 hbs
     obtain ⟨j, hj, hjx, hfd⟩ := bod_idx hy
     subst hjx
     have hfin := hset ts[j].2
     rw [show setM t p ts[j].2 = doesM ts t p kd by rw [e3, does3 hok, ← hwe, hy]; rfl] at hfin
     refine Y14 ?_;refine Y7 ?_;refine Y4 ?_;refine s_val (v_callD (fun _ => rfind_c ts r hts)) ?_;refine s_val (v_index SS (h0 := by rw [show fndM r ts = (j : Int) from hfd]; omega) (hp := by rw [show fndM r ts = (j : Int) from hfd, Int.toNat_natCast]; exact kt_get hj)) ?_;refine Y4 ?_;refine yS ?_;refine e_draw ?_;refine Y54 ?_;refine yL ?_;refine s_val (v_callD (fun _ => hfin)) ?_;refine Y23 ?_;exact Tri.ret ⟨.inr rfl, ret1 rfl resV_cell (VImp.refl _)⟩
    ·skip
     refine Y15 ?_;refine Tri.cond rfl (fun h4 => ?_) (fun h4 => ?_)
     ·skip
      have e4 : kd = 4 := by simpa using h4
      obtain ⟨x, y, g0, g1⟩ := len2 hsh (by have := hki.2.2.2.1 e4; omega)
      have hfin := hset (natM (capM (primV n x.num y.num)))
      rw [show setM t p (natM (capM (primV n x.num y.num))) = doesM ts t p kd by rw [e4, does4 hok, ← hwe]; simp only [priM, g0, g1]; rfl] at hfin
      obtain ⟨xk, xn, xr, xks, xcs⟩ := x
      obtain ⟨yk, yn, yr, yks, ycs⟩ := y
      simp only [kids_mk] at g0 g1
      simp only [num_mk] at hfin
      refine Y13 ?_;refine Y7 ?_;refine s_val (v_index SS (h0 := by omega) (hp := kid_get g0)) ?_;refine Y4 ?_;refine Y7 ?_;refine s_val (v_index SS (h0 := by omega) (hp := kid_get g1)) ?_;refine Y4 ?_;refine s_val (v_callD (fun _ => rnumber_c n xn yn)) ?_;refine yP ?_;refine yS ?_;refine e_draw ?_;refine Y54 ?_;refine yL ?_;refine s_val (v_callD (fun _ => hfin)) ?_;refine Y23 ?_;exact Tri.ret ⟨.inr rfl, ret1 rfl resV_cell (VImp.refl _)⟩
     ·skip
      refine Y15 ?_;refine Tri.cond rfl (fun h5 => ?_) (fun h5 => ?_)
      ·skip
       have e5 : kd = 5 := by simpa using h5
       obtain ⟨hk9, v, g0, hm⟩ := kind5 (w := .mk k n r ks cs) (show kindW ts (wayM t p) p.length (.mk k n r ks cs) = 5 by rw [hwe]; exact hk.trans e5)
       have hv := gd_kid hw g0
       rw [more_let0 (by omega), Int.add_zero] at hv
       have hzv := kid_size g0
       have hc := hw.2.2.2.2.2
       have hws' := hws
       simp only [tsize] at hws' hzv
       rw [show (Tm.mk k n r ks cs).cases = cs from rfl, match_kind hv hc (by omega)] at hm
       obtain ⟨⟨i, l⟩, hfi⟩ := Option.isSome_iff_exists.1 hm
       obtain ⟨j, q, bb, hij, hcj, hl, hlf, hmc⟩ := fit_case hfi
       obtain ⟨hpe, hgb⟩ := gdC_mem hc _ (List.mem_of_getElem? hcj)
       simp only [csP, csT] at hpe hgb
       have hlb := fits_binds q v hlf hpe
       rw [← hl] at hlb
       have hlg : ∀ x ∈ l, gdT 0 x := fun x hx => fits_gd q hv x (hl ▸ hx)
       have hlz : ∀ x ∈ l, tsize x ≤ tsize v := fun x hx => fits_sz q v x (hl ▸ hx)
       have hll : l.length ≤ tsize v := hl ▸ fits_b q v
       have hzb := csize_mem (List.mem_of_getElem? hcj)
       simp only [csize] at hzb
       have hfin := hset (putM l 0 bb)
       rw [show setM t p (putM l 0 bb) = doesM ts t p kd by rw [e5, does5 hok, ← hwe]; simp only [matM, g0]; rw [← hmc]; rfl] at hfin
       have hsz : ∀ m, tsize (putM (l.drop m) 0 bb) ≤ 3000 * 3001 := fun m => by
        have h1 := put_size (l.drop m) (tsize v) (fun x hx => hlz x (List.mem_of_mem_drop hx)) bb 0
        exact Nat.le_trans h1 (Nat.mul_le_mul (by omega) (by omega))
       have hgd : ∀ m, gdT (l.length : Nat) (putM (l.drop m) 0 bb) := fun m => put_gd2 (l.drop m) (fun x hx => hlg x (List.mem_of_mem_drop hx)) bb 0 (l.length : Nat) (by omega) (by omega) (by simp; omega) (gd_mono (by omega) hgb)
       simp only [kids_mk] at g0
       cases ks with
       | nil => simp at g0
       | cons v' ks' =>
       obtain rfl : v' = v := by simpa using g0
       have hcg : (cssc 0 cs)[i]? = some (csec 0 (.mk q bb)) := by rw [hij]; simp [css_eq, hcj]
       have hfc : FCall Tryz.prog G 91 [.pu (tmc 0 (.mk k n r (v' :: ks') cs))] (.tup [iv .i64 (i : Int), .pu (.sl 0 32 (tmsc 0 l))]) := by
        have := rfitting_c (G := G) k n r v' ks' cs (by omega)
        rw [hfi] at this
        exact this
       refine Y6 ?_;refine s_val (v_callD (fun _ => hfc)) ?_;refine Y65 ?_;refine Y10 ?_;refine Y45 ?_;refine s_val (v_index SS (i := (i : Int)) (h0 := by omega) (hp := by rw [Int.toNat_natCast]; exact hcg)) ?_;refine Y4 ?_;refine Y16 ?_;refine Y1 ?_;refine Y24 ?_;refine Y2 ?_;refine Tri.block (Tri.loopW (σ := {m : Nat // m ≤ l.length}) (fun i => ⟨[(3, .pu (.sl 0 3 (pathL p))), (5, .ptr 5 [] 32), (8, .ptr 8 [] 32), (10, .ptr 10 [] 32), (12, .pu (.sl 0 32 (tmsc 0 l))), (13, iv .i64 ((i.1 : Int) - 1))], [(5, .var 32 (.pu (tmc 0 t))), (8, .var 32 (.agg 32 [iv .i64 0, iv .i64 0, .pu (refP Z32), .nilc, .nilc])), (10, .var 32 (.pu (tmc 0 (putM (l.drop i.1) 0 bb))))]⟩) (fun i => i.1) ⟨l.length, Nat.le_refl _⟩ ?_ ?_ (fun i => ?_))
       ·repeat (first | exact .nil | refine .cons rfl (by first | exact .refl | (focus ((repeat constructor); done)) | (first | (rw [tms_length, wrap64 (by omega) (by omega)]; exact .refl) | (rw [List.drop_length, put_none]; exact .refl))) ?_)
       ·repeat (first | exact .nil | refine .cons rfl (by first | exact .refl | (focus ((repeat constructor); done)) | (first | (rw [tms_length, wrap64 (by omega) (by omega)]; exact .refl) | (rw [List.drop_length, put_none]; exact .refl))) ?_)
       refine Y34 ?_;refine Tri.cond rfl (fun h6 => ?_) (fun h6 => ?_)
       ·skip
        have h6' : 1 ≤ i.1 := by simp at h6; omega
        obtain ⟨m, hm⟩ := i
        obtain ⟨m, rfl⟩ : ∃ m', m = m' + 1 := ⟨m - 1, by simp only at h6'; omega⟩
        have hidx : ((m + 1 : Nat) : Int) - 1 = (m : Int) := by omega
        have hstep := drop_put (e := (l.length : Nat)) (fun x hx => ⟨hlg x hx, by have := hlz x hx; omega⟩) (by omega) (gd_mono (by omega) hgb) (by omega) (by omega) hm
        refine Tri.skip ?_;refine tQ ?_;refine Tri.block ?_;refine Y6 ?_;refine Y42 ?_;refine s_val (v_index SS (i := ((m + 1 : Nat) : Int) - 1) (h0 := by omega) (hp := by rw [hidx, Int.toNat_natCast]; exact tms_get hm)) ?_;refine yL ?_;refine s_val (v_callD (fun _ => rinto_c l[m] (putM (l.drop (m + 1)) 0 bb) (hlg _ (List.getElem_mem hm)) (by have := hlz _ (List.getElem_mem hm); omega) (l.length : Nat) (hgd (m + 1)) (by have := hsz (m + 1); omega) (by omega))) ?_;refine yS ?_;refine e_draw ?_;refine Y28 ?_
        refine ⟨⟨m, by omega⟩, by show m < m + 1; omega, le_of ?_ ?_⟩
        ·repeat (first | exact SubE.nil | refine SubE.cons rfl (by first | rfl | (rw [wrap64 (by omega) (by omega)]; rfl) | (first | (dsimp only; rw [wrap64 (by omega) (by omega), show ((m + 1 : Nat) : Int) - 1 - 1 = (m : Int) - 1 by omega]; done) | (dsimp only; rw [hstep]; done) | (dsimp only; rw [wrap64 (by omega) (by omega), show ((m + 1 : Nat) : Int) - 1 - 1 = (m : Int) - 1 by omega]; rfl) | (dsimp only; rw [hstep]; rfl))) ?_)
        ·repeat (first | exact SubH.nil | refine SubH.cons rfl (by first | rfl | (rw [wrap64 (by omega) (by omega)]; rfl) | (first | (dsimp only; rw [wrap64 (by omega) (by omega), show ((m + 1 : Nat) : Int) - 1 - 1 = (m : Int) - 1 by omega]; done) | (dsimp only; rw [hstep]; done) | (dsimp only; rw [wrap64 (by omega) (by omega), show ((m + 1 : Nat) : Int) - 1 - 1 = (m : Int) - 1 by omega]; rfl) | (dsimp only; rw [hstep]; rfl))) ?_)
       ·skip
        have hm0 : i.1 = 0 := by simp at h6; omega
        rw [hm0, List.drop_zero];refine Tri.exit ?_;refine Y54 ?_;refine yL ?_;refine s_val (v_callD (fun _ => hfin)) ?_;refine Y23 ?_;exact Tri.ret ⟨.inr rfl, ret1 rfl resV_cell (VImp.refl _)⟩
      ·skip
       refine Y15 ?_;refine Tri.cond rfl (fun h7 => ?_) (fun h7 => ?_)
       ·skip
        have e6 : kd = 6 := by simpa using h7
        obtain ⟨hk11, hn0, x, hx, hxl⟩ := hki.2.2.2.2.2.1 e6
        rw [ref_mk] at hn0 hx
        rw [num_mk] at hxl
        obtain ⟨y, hy, hy12, _, hnl⟩ := hand_at _ _ _ hn0
        obtain rfl : y = x := Option.some.inj (hy.symm.trans hx)
        obtain ⟨a0, ha⟩ := len1 hsh (.inr (.inr hk11))
        have hga := gd_kid hw ha
        rw [more_let0 (by simp only [kind_mk] at hk11 ⊢; omega), Int.add_zero] at hga
        have hnum := hw.2.2.1 hk11
        have hrh := rhandler_c (G := G) t p hok (by omega) hz
        rw [← hwe, ref_mk] at hrh
        have hdo : doM t p = fillM (wayM t p) p 0 (handM (wayM t p) r p.length).toNat (putM [a0, backM t p (handM (wayM t p) r p.length).toNat] 0 (y.kids[(2 + n).toNat]'(by omega))) := by
         have hxw := way_at hok (by omega) hx
         unfold doM
         rw [← hwe]
         simp only [ref_mk, num_mk]
         rw [ha, ← hxw, List.getElem?_eq_getElem (by omega)]
        obtain ⟨m, hm⟩ : ∃ m : Nat, handM (wayM t p) r p.length = (m : Int) := ⟨_, (Int.toNat_of_nonneg hn0).symm⟩
        rw [hm] at hrh hdo hx hnl hn0
        simp only [Int.toNat_natCast] at hdo hx hnl
        have hxw := way_at hok (by omega) hx
        have hgx := gd_at hg hf m
        rw [← hxw] at hgx
        have hys : tsize y ≤ tsize t := by rw [hxw]; exact walk_size
        have hlt : (2 + n).toNat < y.kids.length := by omega
        obtain ⟨b0, hb0⟩ : ∃ b0, b0 = y.kids[(2 + n).toNat] := ⟨_, rfl⟩
        have hbk : y.kids[(2 + n).toNat]? = some b0 := by rw [hb0]; exact List.getElem?_eq_getElem hlt
        rw [← hb0] at hdo
        have hgb := gd_kid hgx hbk
        rw [hy12, more_han (by omega)] at hgb
        have hbs := kid_size hbk
        have has := kid_size ha
        have hgk := back_gd hg hok hf (n := m) (by omega)
        have hokd := (way_drop m hok (by omega)).2
        rw [← hxw] at hokd
        have hhole : fillM (wayM t p) p m p.length varM = setM y (p.drop m) varM := by rw [hxw]; exact fill_from varM hok (by omega)
        have hbz : tsize (backM t p m) ≤ 3002 := by
         have := fill_size hok m p.length varM (Nat.le_refl _)
         simp only [backM, tsize, tsizeL, csizeL]
         simp only [varM, tsize, tsizeL, csizeL] at this ⊢
         omega
        have hback : backM t p m = .mk 3 0 Z32 [setM y (p.drop m) varM] [] := by unfold backM; rw [hhole]
        have hput := put_one a0 [backM t p m] (by simp) (fun x hx => by simp at hx; subst hx; exact ⟨hgk, by omega⟩) b0 0 2 (by simpa using hgb) (by omega) (by omega) (by omega)
        have hokt := ok_take hok m
        have hat2 := rat_c (G := G) t (p.take m) hokt (by simp; omega)
        rw [← hxw] at hat2
        have hpt : pathL (p.take m) = (pathL p).take m := by simp [pathL, List.map_take]
        have hpd : pathL (p.drop m) = (pathL p).drop m := by simp [pathL, List.map_drop]
        rw [hpt] at hat2
        have hsh2 := rset_c (G := G) varM (p.drop m) y hokd (by omega) (by simp; omega)
        rw [hpd] at hsh2
        have hi1 := rinto_c (G := G) (backM t p m) b0 hgk (by omega) 2 (by simpa using hgb) (by omega) (by omega)
        rw [hback] at hi1
        have hpz : tsize (putM [backM t p m] 0 b0) ≤ 3000 * 3003 := Nat.le_trans (put_size [backM t p m] 3002 (fun x hx => by simp at hx; subst hx; exact hbz) b0 0) (Nat.mul_le_mul (by omega) (by omega))
        have hi2 := rinto_c (G := G) a0 (putM [backM t p m] 0 b0) hga (by omega) 1 (put_gd2 [backM t p m] (fun x hx => by simp at hx; subst hx; exact hgk) b0 0 1 (by omega) (by omega) (by simp; omega) (by simpa using hgb)) (by omega) (by omega)
        rw [← hput] at hi2
        rw [hback] at hi2 hdo
        have hfin := rset_c (G := G) (putM [a0, .mk 3 0 Z32 [setM y (p.drop m) varM] []] 0 b0) (p.take m) t hokt (by omega) (by simp; omega)
        rw [show setM t (p.take m) (putM [a0, .mk 3 0 Z32 [setM y (p.drop m) varM] []] 0 b0) = doesM ts t p kd by rw [e6, does6, hdo, fill_set _ _ hok (by omega)], hpt] at hfin
        obtain ⟨yk, yn, yr, yks, ycs⟩ := y
        simp only [kids_mk] at hbk ha hlt
        have hwn : IntKind.wrap .i64 (2 + n) = 2 + n := wrap64 (by omega) (by omega)
        refine Y54 ?_;refine s_val (v_callD (fun _ => hrh)) ?_;refine Y10 ?_;refine Y6 ?_;refine Y42 ?_;refine s_val (v_sliceTo SS (ps := pathL p) (r := m) (by rw [path_len]; omega)) ?_;refine s_val (v_callD (fun _ => hat2)) ?_;refine s_alloc SS 15 ?_;refine yS ?_;refine e_drawN [15] ?_;refine Y6 ?_;refine Y42 ?_;refine s_val (v_sliceFrom SS (ps := pathL p) (l := m) (by rw [path_len]; omega)) ?_;refine yP ?_;refine s_val (v_callD (fun _ => hsh2)) ?_;refine s_alloc SS 16 ?_;refine yS ?_;refine e_drawN [16] ?_;refine Y6 ?_;refine yZ ?_;refine yP ?_;refine s_alloc SS 17 ?_;refine yS ?_;refine e_seqN [17] ?_;refine Y14 ?_;refine Y40 ?_;refine s_val (v_index SS (h0 := by rw [hwn]; omega) (hp := by rw [hwn]; exact kid_get hbk)) ?_;refine Y68 ?_
        refine s_val (v_callD (fun _ => hi1)) ?_;refine Y7 ?_;refine s_val (v_index SS (h0 := by omega) (hp := kid_get ha)) ?_;refine yL ?_;refine s_val (v_callD (fun _ => hi2)) ?_;refine yS ?_;refine e_draw ?_;refine Y20 ?_;refine s_val (v_sliceTo SS (ps := pathL p) (r := m) (by rw [path_len]; omega)) ?_;refine Y10 ?_;refine Y54 ?_;refine yL ?_;refine s_val (v_callD (fun _ => hfin)) ?_;refine Y23 ?_;exact Tri.ret ⟨.inr rfl, ret1 rfl resV_cell (VImp.refl _)⟩
       ·exfalso
        have := hki.2.2.2.2.2.2.2.1
        simp at h0 h2 h3 h4 h5 h7
        omega
end Go.Proofs.YtkcgkignhpepkaaGreatDoor

/- StepChecks: the walk. -/
namespace Go.Proofs.YtkcgkignhpepkaaGreatDoor
open Go Hs
theorem sameW_refl (ts : List KT) : sameW ts ts = true := eqLM_refl fun x _ => by simp [sameK, sameT_refl]
end Go.Proofs.YtkcgkignhpepkaaGreatDoor

/- What the checker asks at each node alone, and that steps keep it. -/
namespace Go.Proofs.YtkcgkignhpepkaaGreatDoor
open Go Hs
def locM (k n : Int) (r : List Int) (nc : Nat) : Prop :=
 clashM (hasNumM k) (hasRefM k) (hasCasesM k) n r nc = false ∧ nc ≤ 8 ∧ (k == 10 && offM n 1 5) = false ∧ ((k == 2 || k == 8 || k == 11) && offM n 0 (if k == 8 || k == 11 then 7 else 1073741824)) = false
mutual
def lcT : Tm → Prop
 | .mk k n r ks cs => locM k n r cs.length ∧ lcK ks ∧ lcC cs
def lcK : List Tm → Prop
 | [] => True
 | t :: ts => lcT t ∧ lcK ts
def lcC : List Cs → Prop
 | [] => True
 | c :: cs => lcS c ∧ lcC cs
def lcS : Cs → Prop
 | .mk _ t => lcT t
end
theorem termErr_loc {m d b k n : Int} {r : List Int} {nk nc : Nat} (h : termErr m d b k n r nk nc = 0) : locM k n r nc := by
 unfold termErr at h
 by_cases h0 : offM k 1 12 = true
 ·rw [if_pos h0] at h; omega
 rw [if_neg h0] at h
 by_cases h1 : clashM (hasNumM k) (hasRefM k) (hasCasesM k) n r nc = true
 ·rw [if_pos h1] at h; omega
 rw [if_neg h1] at h
 by_cases h2 : (!kidsM k nk || decide ((nc : Int) > 8)) = true
 ·rw [if_pos h2] at h; omega
 rw [if_neg h2] at h
 by_cases h3 : (k == 10 && offM n 1 5) = true
 ·rw [if_pos h3] at h; omega
 rw [if_neg h3] at h
 by_cases h4 : (k == 1 && !knownM d n b) = true
 ·rw [if_pos h4] at h; omega
 rw [if_neg h4] at h
 by_cases h5 : (k == 7 && (decide (n < 0) || decide (n ≥ m))) = true
 ·rw [if_pos h5] at h; omega
 rw [if_neg h5] at h
 by_cases h6 : ((k == 2 || k == 8 || k == 11) && offM n 0 (if k == 8 || k == 11 then 7 else 1073741824)) = true
 ·rw [if_pos h6] at h; omega
 simp only [Bool.or_eq_true, not_or, Bool.not_eq_true, decide_eq_true_eq] at h2
 exact ⟨by simpa using h1, by omega, by simpa using h3, by simpa using h6⟩
theorem loc_termErr {m d b k n : Int} {r : List Int} {nk nc : Nat} (h : locM k n r nc) (h1 : 1 ≤ k ∧ k ≤ 12 ∧ k ≠ 7) (h2 : kidsM k nk = true) (h3 : k = 1 → 0 ≤ n ∧ n < b) : termErr m d b k n r nk nc = 0 := by
 obtain ⟨g1, g2, g3, g4⟩ := h
 unfold termErr
 rw [if_neg (by simp [offM]; omega), if_neg (by rw [g1]; decide), if_neg (by rw [h2]; simp; omega), if_neg (by rw [g3]; decide)]
 rw [if_neg (by
  by_cases e : k = 1
  ·have := h3 e
   simp [e, knownM]; omega
  ·simp [e]), if_neg (by simp; omega), if_neg (by rw [g4]; decide)]
mutual
theorem aerr_lc {m d : Int} : ∀ {t : Tm} {b : Int}, aerr m d b t = 0 → lcT t
 | .mk k n r ks cs, b, h => by
  simp only [aerr] at h
  obtain ⟨h1, h⟩ := orE_zero h
  obtain ⟨_, h⟩ := orE_zero h
  obtain ⟨h2, h3⟩ := orE_zero h
  exact ⟨termErr_loc h1, aerrK_lc h2, aerrC_lc h3⟩
theorem aerrK_lc {m d : Int} : ∀ {ks : List Tm} {b k : Int} {i : Nat}, aerrK m d b k i ks = 0 → lcK ks
 | [], _, _, _, _ => trivial
 | t :: ts, b, k, i, h => by
  simp only [aerrK] at h
  obtain ⟨h1, h2⟩ := orE_zero h
  exact ⟨aerr_lc h1, aerrK_lc h2⟩
theorem aerrC_lc {m d : Int} : ∀ {cs : List Cs} {b : Int}, aerrC m d b cs = 0 → lcC cs
 | [], _, _ => trivial
 | .mk q t :: cs, b, h => by
  simp only [aerrC, aerrCs] at h
  obtain ⟨h1, h2⟩ := orE_zero h
  exact ⟨aerr_lc (t := t) h1, aerrC_lc h2⟩
end
mutual
theorem gd_aerr {m d : Int} : ∀ {t : Tm} {b : Int}, gdT b t → lcT t → aerr m d b t = 0
 | .mk k n r ks cs, b, h, hl => by
  obtain ⟨g1, g2, g3, g4, g5, g6⟩ := h
  simp only [aerr, loc_termErr hl.1 g1 g2 g4, gd_aerrK g5 hl.2.1, gd_aerrC g6 hl.2.2]
  have : firstE (fun c => perr (csP c)) cs = 0 := gdC_perr g6
  rw [this]; rfl
theorem gd_aerrK {m d : Int} : ∀ {ks : List Tm} {b k : Int} {i : Nat}, gdK b k i ks → lcK ks → aerrK m d b k i ks = 0
 | [], _, _, _, _, _ => rfl
 | t :: ts, b, k, i, h, hl => by
  simp only [aerrK, gd_aerr h.1 hl.1, gd_aerrK h.2 hl.2]; rfl
theorem gd_aerrC {m d : Int} : ∀ {cs : List Cs} {b : Int}, gdC b cs → lcC cs → aerrC m d b cs = 0
 | [], _, _, _ => rfl
 | .mk q t :: cs, b, h, hl => by
  have h1 : aerr m d (b + bindsM q) t = 0 := gd_aerr h.1.2 hl.1
  simp only [aerrC, aerrCs, h1, gd_aerrC h.2 hl.2]; rfl
theorem gdC_perr : ∀ {cs : List Cs} {b : Int}, gdC b cs → firstE (fun c => perr (csP c)) cs = 0
 | [], _, _ => rfl
 | .mk q t :: cs, b, h => by
  have h1 : perr q = 0 := h.1.1
  simp only [firstE, csP, h1, if_true]
  exact gdC_perr h.2
end
theorem lc_none : lcT noneM := by simp [noneM, lcT, lcK, lcC, locM, clashM, offM]
theorem lc_var : lcT varM := by simp [varM, lcT, lcK, lcC, locM, clashM, offM]
theorem cap_b (x : Int) : 0 ≤ capM x ∧ capM x ≤ 1073741824 := by unfold capM; omega
theorem lc_prim (op a b : Int) : lcT (primM op a b) := by
 have := cap_b (primV op a b)
 unfold primM natM
 generalize capM (primV op a b) = x at *
 simp [lcT, lcK, lcC, locM, clashM, offM, hasNumM]
 omega
theorem lcK_mem : ∀ {ks : List Tm}, lcK ks → ∀ x ∈ ks, lcT x
 | _ :: _, h, x, hx => by
  rcases List.mem_cons.1 hx with rfl | hx
  ·exact h.1
  ·exact lcK_mem h.2 x hx
theorem putC_len2 (vs : List Tm) : ∀ (cs : List Cs) (d : Int), (putC vs d cs).length = cs.length
 | [], _ => rfl
 | .mk q t :: cs, d => by simp [putC, putC_len2 vs cs d]
mutual
theorem lc_put (vs : List Tm) (hv : ∀ v ∈ vs, lcT v) : ∀ (t : Tm) (d : Int), lcT t → lcT (putM vs d t)
 | .mk k n r ks cs, d, h => by
  obtain ⟨h1, h3, h4⟩ := h
  have k1 := lc_putK vs hv ks d k 0 h3
  have k2 := lc_putC vs hv cs d h4
  simp only [putM]
  split
  ·rename_i hC
   split
   ·exact hv _ (List.getElem_mem _)
   ·refine ⟨?_, k1, k2⟩
    rw [putC_len2]
    have e := hC.1
    subst e
    simpa [locM, clashM, hasNumM] using h1
  ·exact ⟨by rw [putC_len2]; exact h1, k1, k2⟩
theorem lc_putK (vs : List Tm) (hv : ∀ v ∈ vs, lcT v) : ∀ (ks : List Tm) (d k : Int) (i : Nat), lcK ks → lcK (putK vs d k i ks)
 | [], _, _, _, _ => trivial
 | t :: ts, d, k, i, h => ⟨lc_put vs hv t _ h.1, lc_putK vs hv ts d k (i + 1) h.2⟩
theorem lc_putC (vs : List Tm) (hv : ∀ v ∈ vs, lcT v) : ∀ (cs : List Cs) (d : Int), lcC cs → lcC (putC vs d cs)
 | [], _, _ => trivial
 | c :: cs, d, h => ⟨lc_putS vs hv c d h.1, lc_putC vs hv cs d h.2⟩
theorem lc_putS (vs : List Tm) (hv : ∀ v ∈ vs, lcT v) : ∀ (c : Cs) (d : Int), lcS c → lcS (putS vs d c)
 | .mk q t, d, h => lc_put vs hv t _ h
end
theorem lc_kid {t x : Tm} {i : Nat} (h : lcT t) (hx : t.kids[i]? = some x) : lcT x := by
 obtain ⟨k, n, r, ks, cs⟩ := t
 exact lcK_mem h.2.1 _ (List.mem_of_getElem? hx)
theorem lc_walk : ∀ {t : Tm} {p : List Nat}, lcT t → lcT (walkM t p)
 | t, [], h => h
 | t, i :: p, h => by
  simp only [walkM]
  split
  ·rename_i x hx; exact lc_walk (lc_kid h hx)
  ·exact h
theorem lcK_set : ∀ {ks : List Tm} {j : Nat} {x : Tm}, lcK ks → lcT x → lcK (ks.set j x)
 | [], _, _, _, _ => trivial
 | t :: ts, 0, x, h, hx => ⟨hx, h.2⟩
 | t :: ts, j + 1, x, h, hx => ⟨h.1, lcK_set h.2 hx⟩
theorem lc_set {t x : Tm} {j : Nat} (h : lcT t) (hx : lcT x) : lcT (setKid t j x) := by
 obtain ⟨k, n, r, ks, cs⟩ := t
 exact ⟨h.1, lcK_set h.2.1 hx, h.2.2⟩
theorem lc_fill {t : Tm} {p : List Nat} (hok : okP t p) (ht : lcT t) (lo : Nat) : ∀ (hi : Nat) (x : Tm), hi ≤ p.length → lcT x → lcT (fillM (wayM t p) p lo hi x)
 | 0, x, _, h => h
 | n + 1, x, hn, h => by
  simp only [fillM]
  split
  ·exact h
  ·rw [way_get hok (by omega), List.getElem?_eq_getElem (show n < p.length by omega)]
   exact lc_fill hok ht lo n _ (by omega) (lc_set (lc_walk ht) h)
mutual
theorem lc_fits : ∀ (p : Pat) (v : Tm), lcT v → ∀ x ∈ (fitsM p v).1, lcT x
 | .mk k n r ks, v, h, x, hx => by
  simp only [fitsM] at hx
  split at hx
  ·simp at hx; rw [hx]; exact h
  ·split at hx
   ·simp at hx
   ·split at hx
    ·split at hx
     ·simp at hx
     ·obtain ⟨k', n', r', ks', cs'⟩ := v
      exact lc_fitsL ks ks' h.2.1 x hx
    ·simp at hx
theorem lc_fitsL : ∀ (ps : List Pat) (vs : List Tm), lcK vs → ∀ x ∈ (fitsL ps vs).1, lcT x
 | [], vs, _, x, hx => by simp [fitsL] at hx
 | _ :: _, [], _, x, hx => by simp [fitsL] at hx
 | p :: ps, v :: vs, h, x, hx => by
  simp only [fitsL, fitAdd] at hx
  split at hx
  ·rcases List.mem_append.1 hx with h' | h'
   ·exact lc_fits p v h.1 x h'
   ·exact lc_fitsL ps vs h.2 x h'
  ·simp at hx
end
theorem lc_match : ∀ (cs : List Cs) (v : Tm), lcC cs → lcT v → lcT (matchM cs v)
 | [], v, _, _ => lc_none
 | .mk q b :: cs, v, h, hv => by
  simp only [matchM]
  split
  ·exact lc_put _ (lc_fits q v hv) b 0 h.1
  ·exact lc_match cs v h.2 hv
theorem lc_bod {s : List Int} {y : Tm} : ∀ {ts : List KT}, (∀ x ∈ ts, lcT x.2) → bodM s ts = some y → lcT y
 | [], _, h => by cases h
 | x :: ts, h, hy => by
  simp only [bodM] at hy
  split at hy
  ·simp at hy; rw [← hy]; exact h x (by simp)
  ·exact lc_bod (fun z hz => h z (by simp [hz])) hy
theorem does_lc {ts : List KT} (hb : ∀ x ∈ ts, lcT x.2) {t0 : Tm} {p : List Nat} (hs : lcT t0) (hok : okP t0 p) (k : Int) : lcT (doesM ts t0 p k) := by
 have hw := lc_walk (p := p) hs
 have here : ∀ y, lcT y → lcT (hereM t0 p y) := fun y hy => lc_fill hok hs 0 _ _ (Nat.le_refl _) hy
 have hput : ∀ x y, lcT x → lcT y → lcT (putM [x] 0 y) := fun x y hx hy => lc_put _ (fun v hv => by simp at hv; rw [hv]; exact hx) _ _ hy
 have hlet : lcT (letM (walkM t0 p)) := by
  unfold letM
  split
  ·rename_i x b h1 h2; exact hput _ _ (lc_kid hw h1) (lc_kid hw h2)
  ·exact lc_none
 unfold doesM
 split
 ·refine here _ ?_
  unfold appM
  split
  ·rename_i f x h1 h2
   split
   ·rename_i b h3; exact hput _ _ (lc_kid hw h2) (lc_kid (lc_kid hw h1) h3)
   ·exact lc_none
  ·exact lc_none
 split
 ·exact here _ hlet
 split
 ·refine here _ ?_
  cases hy : bodM (walkM t0 p).ref ts with
  | none => exact lc_none
  | some y => exact lc_bod hb hy
 split
 ·refine here _ ?_
  unfold priM
  split
  ·exact lc_prim _ _ _
  ·exact lc_none
 split
 ·refine here _ ?_
  unfold matM
  split
  ·rename_i v hv
   have hv' := lc_kid hw hv
   generalize walkM t0 p = w at hw
   obtain ⟨k, n, r, ks, cs⟩ := w
   exact lc_match _ _ hw.2.2 hv'
  ·exact lc_none
 split
 ·unfold doM
  split
  ·rename_i a b h1 h2
   have hlt := hand_lt (wayM t0 p) (walkM t0 p).ref p.length
   refine lc_fill hok hs 0 _ _ (by omega) (lc_put _ (fun v hv => ?_) _ _ (lc_kid (lc_walk hs) h2))
   simp at hv
   rcases hv with rfl | rfl
   ·exact lc_kid hw h1
   ·refine ⟨by simp [locM, clashM, offM], ⟨lc_fill hok hs _ _ _ (Nat.le_refl _) lc_var, trivial⟩, trivial⟩
  ·exact lc_none
 ·exact here _ hlet
theorem check_lc {t : Tm} {d m : Int} (h : checkM t d m = 0) : lcT t := by
 unfold checkM at h
 split at h
 ·cases h
 ·exact aerr_lc h
structure Rt (t : Tm) : Prop where
 gd : gdT 0 t
 lc : lcT t
theorem check_rt {t : Tm} (h : checkM t 0 0 = 0) (hr : rgT t) : Rt t := ⟨check_gd h hr, check_lc h⟩
theorem Rt.check {t : Tm} (h : Rt t) (d m : Int) : checkM t d m = if (longT 300 60 1 0 t).1 then 11 else 0 := by
 unfold checkM
 rw [gd_aerr h.gd h.lc]
theorem does_rt {ts : List KT} (hb : ∀ x ∈ ts, Rt x.2) {t : Tm} (h : Rt t) (hN : tsize t < 2^28) {k : Int} (hk : kindM ts t (placeM t) = k) (hk7 : k ≤ 7) : Rt (doesM ts t (placeM t) k) :=
 ⟨does_gd h.gd (place_ok (gd_sh h.gd)) (freeP_place t) hN (fun x hx => (hb x hx).gd) hk hk7, does_lc (fun x hx => (hb x hx).lc) h.lc (place_ok (gd_sh h.gd)) k⟩
end Go.Proofs.YtkcgkignhpepkaaGreatDoor

/- The reference: a step, and some steps. -/
namespace Go.Proofs.YtkcgkignhpepkaaGreatDoor
open Go Hs
variable {G : List (Nat × TypeId × Pu)}
abbrev stepV (m : Nat) (x : Tm × Int) : PV := .tup [.pu (tmc m x.1), iv .i64 x.2]
theorem rnext_cases (ts : List KT) (t : Tm) : ∃ kd p, rnextM ts t = (kd, p) ∧ (kd = 0 → valM t = true) ∧ (kd ≠ 0 → valM t = false ∧ kindM ts t (placeM t) = kd ∧ p = placeM t) := by
 have hk := (kind_inv (show kindW ts (wayM t (placeM t)) (placeM t).length (walkM t (placeM t)) = kindM ts t (placeM t) from rfl)).2.2.2.2.2.2.2.1
 unfold rnextM
 cases hv : valM t
 ·exact ⟨kindM ts t (placeM t), placeM t, rfl, fun h => by omega, fun _ => ⟨rfl, rfl, rfl⟩⟩
 ·exact ⟨0, [], rfl, fun _ => rfl, fun h => absurd rfl h⟩
end Go.Proofs.YtkcgkignhpepkaaGreatDoor

/- step.Step and step.Trace. -/
namespace Go.Proofs.YtkcgkignhpepkaaGreatDoor
open Go Hs
variable {G : List (Nat × TypeId × Pu)}
end Go.Proofs.YtkcgkignhpepkaaGreatDoor

/- Steps as specified: the reference's are the program's. -/
namespace Go.Proofs.YtkcgkignhpepkaaGreatDoor
open Go Hs
theorem rt_step {ts : List KT} (hb : ∀ x ∈ ts, Rt x.2) {t : Tm} (h : Rt t) (hN : tsize t < 2^28) (hk7 : ¬ 7 < kindM ts t (placeM t)) : Rt (nextM ts t) := by
 unfold nextM
 exact does_rt hb h hN rfl (by omega)
end Go.Proofs.YtkcgkignhpepkaaGreatDoor

/- Terms that are the same: the chapter's and the reference's. -/
namespace Go.Proofs.YtkcgkignhpepkaaGreatDoor
open Go Hs
variable {G : List (Nat × TypeId × Pu)}
def keyP (k n : Int) (r : List Int) : Pu := .agg 275 [.leaf (.int .i64 k), .leaf (.int .i64 n), refP r]
instance (k n : Int) (r : List Int) : TyV Tryz.prog 275 (.pu (keyP k n r)) := inferInstanceAs (TyV Tryz.prog 275 (.pu (.agg _ _)))
theorem key_cond (k n : Int) (r : List Int) (k' n' : Int) (r' : List Int) : Tryz.prog.eqGuardType Tryz.prog.depth 275 = false ∧ 275 < Tryz.prog.types.size ∧ tyP Tryz.prog 275 (keyP k n r) = true ∧ tyP Tryz.prog 275 (keyP k' n' r') = true :=
 ⟨by kernel_rfl, of_decide_eq_true (by kernel_rfl), (show tyV Tryz.prog 275 (.pu (keyP k n r)) = true from TyV.ok), (show tyV Tryz.prog 275 (.pu (keyP k' n' r')) = true from TyV.ok)⟩
theorem list3 {α : Type} : ∀ {l : List α}, l.length = 3 → ∃ a b c, l = [a, b, c]
 | [a, b, c], _ => ⟨a, b, c, rfl⟩
theorem key_fields : ∃ f1 f2 f3 : Field, Tryz.prog.underlying 275 = some (.struct #[f1, f2, f3]) ∧ (f1.name ≠ "_" ∧ f2.name ≠ "_" ∧ f3.name ≠ "_") ∧ f1.type = 3 ∧ f2.type = 3 ∧ f3.type = 28 := by
 have h : (match Tryz.prog.underlying 275 with | some (.struct fs) => (fs.toList.map (·.type) == [3, 3, 28]) && fs.toList.all (fun f => f.name != "_") | _ => false) = true := by kernel_rfl
 split at h
 ·rename_i fs hfs
  obtain ⟨l⟩ := fs
  simp only [Bool.and_eq_true, beq_iff_eq] at h
  obtain ⟨h1, h2⟩ := h
  obtain ⟨f1, f2, f3, rfl⟩ : ∃ f1 f2 f3, l = [f1, f2, f3] := list3 (by simpa using congrArg List.length h1)
  simp only [List.map_cons, List.map_nil, List.cons.injEq, and_true] at h1
  simp only [List.all_cons, List.all_nil, Bool.and_true, Bool.and_eq_true, bne_iff_ne] at h2
  exact ⟨f1, f2, f3, hfs, h2, h1.1, h1.2.1, h1.2.2⟩
 ·cases h
theorem peq_key (d : Nat) (k n : Int) {r : List Int} (k' n' : Int) {r' : List Int} (h : r.length = r'.length) : peqT Tryz.prog (d + 4) 275 (keyP k n r) (keyP k' n' r') = some ((k == k') && ((n == n') && ((r == r') && true))) := by
 obtain ⟨f1, f2, f3, hu, ⟨a1, a2, a3⟩, b1, b2, b3⟩ := key_fields
 have hs : Tryz.prog.stoodInHeld 275 = false := by kernel_rfl
 have hi : Tryz.prog.underlying 3 = some (.int .i64) := by kernel_rfl
 have hr := peq_refD (d + 1) h
 have hn : ∀ a b : Int, peqT Tryz.prog (d + 3) 3 (.leaf (.int .i64 a)) (.leaf (.int .i64 b)) = some (a == b) := fun a b => by simp only [peqT, hi, if_true]
 unfold keyP
 rw [peqT.eq_def]
 simp only [hu, hs, Bool.false_eq_true, if_false, peqF, a1, a2, a3, b1, b2, b3, hr, hn]
theorem bin_eqK {k n : Int} {r : List Int} {k' n' : Int} {r' : List Int} (h : r.length = r'.length) : binV Tryz.prog .eql 275 (.pu (keyP k n r)) (.pu (keyP k' n' r')) = some (bv ((k == k') && ((n == n') && ((r == r') && true)))) := by
 have h1 := key_cond k n r k' n' r'
 have h2 := fun e => peq_key e k n k' n' h
 unfold keyP at h1 h2 ⊢
 simp only [binV, if_pos h1]
 generalize hd : (100 : Nat) = d
 obtain ⟨e, rfl⟩ : ∃ e, d = e + 4 := ⟨96, by omega⟩
 rw [h2 e]
theorem tsameP_c : ∀ (N : Nat) (p q : Pat), psize p ≤ N → N < 2^40 → psize q < 2^40 → FCall Tryz.prog G 190 [.pu (patc 0 p), .pu (patc 0 q)] (bv (sameP p q)) := by
 intro N
 induction N with
 | zero => intro p q h; cases p; simp [psize] at h
 | succ N ih =>
 intro p q hp hN hq
 obtain ⟨k, n, r, ks⟩ := p
 obtain ⟨k', n', r', ks'⟩ := q
 simp only [psize] at hp hq
 have hlen := length_psizeL ks
 have hlen' := length_psizeL ks'
 refine FCall.of_tri tbl 27 Tryz.func190 rfl rfl rfl fun w0 M ρ0 D0 => ?_
 refine Tri.fact (i := 0) rfl (fun D w x h => pat_wf h) (fun hr => ?_);refine Tri.fact (i := 1) rfl (fun D w x h => pat_wf h) (fun hr' => ?_)
 simp only [wfP] at hr hr'
 refine yR ?_;refine s_box SS 2 ?_;refine s_box SS 3 ?_;refine yB ?_;refine e_seqN [2, 3] ?_;refine Y13 ?_;refine Y49 ?_;refine yP ?_;refine Y49 ?_;refine Y4 ?_;refine yP ?_;refine s_val (v_bin SS (h := bin_eqK (hr.1.trans hr'.1.symm))) ?_;refine Y25 ?_;refine s_gg zG (v_callD (fun _ => eqfPat_c 190 (by kernel_rfl) sameP ks ks' (by omega) (by omega) (fun i h1 h2 => ih _ _ (by have := psizeL_get h1; omega) (by omega) (by have := psizeL_get h2; omega)))) ?_;refine yN ?_;refine Y2 ?_;exact Tri.ret ⟨.inr rfl, ret1 rfl resV_tmp (bv_imp (by simp only [sameP, samePs_eq, Bool.and_true, Bool.and_assoc]))⟩
theorem tsameC_c (c d : Cs) (hp : csize c < 2^40) (hq : csize d < 2^40) (h : FCall Tryz.prog G 129 [.pu (tmc 0 (csT c)), .pu (tmc 0 (csT d))] (bv (sameT (csT c) (csT d)))) : FCall Tryz.prog G 189 [.pu (csec 0 c), .pu (csec 0 d)] (bv (sameC c d)) := by
 obtain ⟨p, t⟩ := c
 obtain ⟨q, u⟩ := d
 simp only [csT, csize] at h hp hq
 refine FCall.of_tri tbl 17 Tryz.func189 rfl rfl rfl fun w0 M ρ0 D0 => ?_
 refine yR ?_;refine s_box SS 2 ?_;refine s_box SS 3 ?_;refine yB ?_;refine e_seqN [2, 3] ?_;refine Y13 ?_;refine Y4 ?_;refine s_val (v_callD (fun _ => tsameP_c _ p q (Nat.le_refl _) (by omega) (by omega))) ?_;refine Y25 ?_;refine s_gg zG (v_callD (fun _ => h)) ?_;refine yN ?_;refine Y2 ?_;exact Tri.ret ⟨.inr rfl, ret1 rfl resV_tmp (bv_imp (by simp only [sameC]))⟩
theorem tsameT_c : ∀ (N : Nat) (t u : Tm), tsize t ≤ N → N < 2^40 → tsize u < 2^40 → FCall Tryz.prog G 129 [.pu (tmc 0 t), .pu (tmc 0 u)] (bv (sameT t u)) := by
 intro N
 induction N with
 | zero => intro t u h; have := tsize_pos t; omega
 | succ N ih =>
 intro t u hp hN hq
 obtain ⟨k, n, r, ks, cs⟩ := t
 obtain ⟨k', n', r', ks', cs'⟩ := u
 simp only [tsize] at hp hq
 have hlen := length_tsizeL ks
 have hlen' := length_tsizeL ks'
 have hlc := length_csizeL cs
 have hlc' := length_csizeL cs'
 refine FCall.of_tri tbl 38 Tryz.func129 rfl rfl rfl fun w0 M ρ0 D0 => ?_
 refine Tri.fact (i := 0) rfl (fun D w x h => tm_wf h) (fun hr => ?_);refine Tri.fact (i := 1) rfl (fun D w x h => tm_wf h) (fun hr' => ?_)
 simp only [wfT] at hr hr'
 have hcs : ∀ i (h1 : i < cs.length) (h2 : i < cs'.length), FCall Tryz.prog G 189 [.pu (csec 0 cs[i]), .pu (csec 0 cs'[i])] (bv (sameC cs[i] cs'[i])) := fun i h1 h2 => by
  have s1 := csizeL_get h1
  have s2 := csizeL_get h2
  generalize cs[i] = c at s1 ⊢
  generalize cs'[i] = d at s2 ⊢
  refine tsameC_c c d (by omega) (by omega) ?_
  obtain ⟨p, t⟩ := c
  obtain ⟨q, u⟩ := d
  simp only [csize, csT] at s1 s2 ⊢
  exact ih t u (by omega) (by omega) (by omega)
 refine yR ?_;refine s_box SS 2 ?_;refine s_box SS 3 ?_;refine yB ?_;refine e_seqN [2, 3] ?_;refine Y13 ?_;refine Y40 ?_;refine Y25 ?_;refine Y17 ?_;refine Y25 ?_;refine s_gg zG (v_bin SS (h := bin_eqS (hr.1.trans hr'.1.symm))) ?_;refine yN ?_;refine Y25 ?_;refine s_gg zG (v_callD (fun _ => eqfTm_c 129 (by kernel_rfl) sameT ks ks' (by omega) (by omega) (fun i h1 h2 => ih _ _ (by have := tsizeL_get h1; omega) (by omega) (by have := tsizeL_get h2; omega)))) ?_;refine yN ?_;refine Y25 ?_;refine s_gg zG (v_callD (fun _ => eqfCs_c 189 (by kernel_rfl) sameC cs cs' (by omega) (by omega) hcs)) ?_;refine yN ?_;refine Y2 ?_
 exact Tri.ret ⟨.inr rfl, ret1 rfl resV_tmp (bv_imp (by simp only [sameT, sameCs_eq, sameTs_eq]))⟩
theorem rsameP_c : ∀ (N : Nat) (p q : Pat), psize p ≤ N → N < 2^40 → psize q < 2^40 → FCall Tryz.prog G 188 [.pu (patc 0 p), .pu (patc 0 q)] (bv (sameP p q)) := by
 intro N
 induction N with
 | zero => intro p q h; cases p; simp [psize] at h
 | succ N ih =>
 intro p q hp hN hq
 obtain ⟨k, n, r, ks⟩ := p
 obtain ⟨k', n', r', ks'⟩ := q
 simp only [psize] at hp hq
 have hlen := length_psizeL ks
 have hlen' := length_psizeL ks'
 have hsame : sameP (.mk k n r ks) (.mk k' n' r' ks') = ((k == k' && n == n' && r == r') && eqLM sameP ks ks') := by simp only [sameP, samePs_eq]
 refine FCall.of_tri tbl 53 Tryz.func188 rfl rfl rfl fun w0 M ρ0 D0 => ?_
 refine Tri.fact (i := 0) rfl (fun D w x h => pat_wf h) (fun hr => ?_);refine Tri.fact (i := 1) rfl (fun D w x h => pat_wf h) (fun hr' => ?_)
 simp only [wfP] at hr hr'
 refine yR ?_;refine s_box SS 2 ?_;refine s_box SS 3 ?_;refine yB ?_;refine e_seqN [2, 3] ?_;refine Y13 ?_;refine Y40 ?_;refine Y25 ?_;refine Y18 ?_;refine Y25 ?_;refine s_gg zG (v_bin SS (h := bin_neS (hr.1.trans hr'.1.symm))) ?_;refine yO ?_;refine Y11 ?_;refine xC ?_;refine Y5 ?_;refine xC ?_;refine Y59 ?_;refine Tri.cond rfl (fun h0 => ?_) (fun h0 => ?_)
 ·skip
  have hf : sameP (.mk k n r ks) (.mk k' n' r' ks') = false := by
   rw [pats_length, pats_length] at h0
   rw [hsame]
   by_cases hl : ks.length = ks'.length
   ·have hA : (k == k' && n == n' && r == r') = false := by
     by_cases h1 : k = k'
     ·by_cases h2 : n = n'
      ·by_cases h3 : r = r'
       ·simp [h1, h2, h3, hl] at h0
       ·simp [h3]
      ·simp [h2]
     ·simp [h1]
    rw [hA, Bool.false_and]
   ·rw [eqLM_len hl, Bool.and_false]
  refine Y8 ?_;exact Tri.ret ⟨.inr rfl, ret1 rfl resV_tmp (bv_imp hf.symm)⟩
 ·skip
  have hq0 : k = k' ∧ n = n' ∧ r = r' ∧ ks.length = ks'.length := by
   rw [pats_length, pats_length] at h0
   simp at h0
   exact ⟨by simp_all, by simp_all, by simp_all, by omega⟩
  obtain ⟨e1, e2, e3, hlm⟩ := hq0
  rw [show (k == k' && n == n' && r == r') = true by simp [e1, e2, e3], Bool.true_and] at hsame
  refine Tri.skip ?_;refine Y8 ?_;refine Tri.block (Tri.loopW (σ := {i : Nat // eqLM sameP (ks.take i) (ks'.take i) = true}) (fun i => ⟨[(2, .ptr 2 [] 104), (3, .ptr 3 [] 104), (5, iv .i64 i.1)], [(2, .var 104 (.pu (patc 0 (.mk k n r ks)))), (3, .var 104 (.pu (patc 0 (.mk k' n' r' ks'))))]⟩) (fun i => ks.length - i.1) ⟨0, by simp [eqLM]⟩ ?_ ?_ (fun i => ?_))
  ·exact zW
  ·exact zW
  refine Y60 ?_;refine Tri.cond rfl (fun h1 => ?_) (fun h1 => ?_)
  ·skip
   have hi : i.1 < ks.length := by rw [pats_length] at h1; simpa using h1
   have hi2 : i.1 < ks'.length := by omega
   have htk := eqLM_take (φ := sameP) hi hi2
   rw [i.2, Bool.true_and] at htk
   refine Tri.skip ?_;refine tQ ?_;refine Tri.block ?_;refine Y45 ?_;refine s_val (v_index SS (h0 := by omega) (hp := pats_get hi)) ?_;refine yL ?_;refine Y46 ?_;refine s_val (v_index SS (h0 := by omega) (hp := pats_get hi2)) ?_;refine yL ?_;refine s_val (v_callD (fun _ => ih ks[i.1] ks'[i.1] (by have := psizeL_get hi; omega) (by omega) (by have := psizeL_get hi2; omega))) ?_;refine yQ ?_;refine Y38 ?_;refine Tri.cond rfl (fun h2 => ?_) (fun h2 => ?_)
   ·skip
    have hf : sameP (.mk k n r ks) (.mk k' n' r' ks') = false := by rw [hsame]; exact eqLM_stop (i := i.1 + 1) (by rw [htk]; simpa using h2)
    refine Y8 ?_;exact Tri.ret ⟨.inr rfl, ret1 rfl resV_tmp (bv_imp hf.symm)⟩
   ·skip
    have hnext : eqLM sameP (ks.take (i.1 + 1)) (ks'.take (i.1 + 1)) = true := by rw [htk]; simpa using h2
    refine Tri.skip ?_;refine Y28 ?_
    refine ⟨⟨i.1 + 1, hnext⟩, by show ks.length - (i.1 + 1) < ks.length - i.1; omega, le_of ?_ ?_⟩
    ·exact zE
    ·exact zH
  ·skip
   have hf : sameP (.mk k n r ks) (.mk k' n' r' ks') = true := by
    have := i.2
    rw [hsame]
    rwa [List.take_of_length_le (by rw [pats_length] at h1; simp at h1; omega), List.take_of_length_le (by rw [pats_length] at h1; simp at h1; omega)] at this
   refine Tri.exit ?_;refine Y8 ?_;exact Tri.ret ⟨.inr rfl, ret1 rfl resV_tmp (bv_imp hf.symm)⟩
set_option maxHeartbeats 1000000 in
theorem rsameT_c : ∀ (N : Nat) (p q : Tm), tsize p ≤ N → N < 2^40 → tsize q < 2^40 → FCall Tryz.prog G 126 [.pu (tmc 0 p), .pu (tmc 0 q)] (bv (sameT p q)) := by
 intro N
 induction N with
 | zero => intro p q h; have := tsize_pos p; omega
 | succ N ih =>
 intro p q hp hN hq
 obtain ⟨k, n, r, ks, cs⟩ := p
 obtain ⟨k', n', r', ks', cs'⟩ := q
 simp only [tsize] at hp hq
 have hlen := length_tsizeL ks
 have hlen' := length_tsizeL ks'
 have hlc := length_csizeL cs
 have hlc' := length_csizeL cs'
 have hsame : sameT (.mk k n r ks cs) (.mk k' n' r' ks' cs') = ((k == k' && n == n' && r == r') && eqLM sameT ks ks' && eqLM sameC cs cs') := by simp only [sameT, sameTs_eq, sameCs_eq]
 refine FCall.of_tri tbl 100 Tryz.func126 rfl rfl rfl fun w0 M ρ0 D0 => ?_
 refine Tri.fact (i := 0) rfl (fun D w x h => tm_wf h) (fun hr => ?_);refine Tri.fact (i := 1) rfl (fun D w x h => tm_wf h) (fun hr' => ?_)
 simp only [wfT] at hr hr'
 refine yR ?_;refine s_box SS 2 ?_;refine s_box SS 3 ?_;refine yB ?_;refine e_seqN [2, 3] ?_;refine Y13 ?_;refine Y40 ?_;refine Y25 ?_;refine Y18 ?_;refine Y25 ?_;refine s_gg zG (v_bin SS (h := bin_neS (hr.1.trans hr'.1.symm))) ?_;refine yO ?_;refine Y11 ?_;refine xC ?_;refine Y5 ?_;refine xC ?_;refine Y43 ?_;refine xC ?_;refine Y5 ?_;refine xC ?_;refine Y59 ?_;refine Tri.cond rfl (fun h0 => ?_) (fun h0 => ?_)
 ·skip
  have hf : sameT (.mk k n r ks cs) (.mk k' n' r' ks' cs') = false := by
   rw [tms_length, tms_length, css_length, css_length] at h0
   rw [hsame]
   by_cases hl : ks.length = ks'.length
   ·by_cases hl2 : cs.length = cs'.length
    ·have hA : (k == k' && n == n' && r == r') = false := by
      by_cases h1 : k = k'
      ·by_cases h2 : n = n'
       ·by_cases h3 : r = r'
        ·simp [h1, h2, h3, hl, hl2] at h0
        ·simp [h3]
       ·simp [h2]
      ·simp [h1]
     rw [hA, Bool.false_and, Bool.false_and]
    ·rw [eqLM_len hl2, Bool.and_false]
   ·rw [eqLM_len hl, Bool.and_false, Bool.false_and]
  refine Y8 ?_;exact Tri.ret ⟨.inr rfl, ret1 rfl resV_tmp (bv_imp hf.symm)⟩
 ·skip
  have hq0 : k = k' ∧ n = n' ∧ r = r' ∧ ks.length = ks'.length ∧ cs.length = cs'.length := by
   rw [tms_length, tms_length, css_length, css_length] at h0
   simp at h0
   exact ⟨by simp_all, by simp_all, by simp_all, by omega, by omega⟩
  obtain ⟨e1, e2, e3, hlm, hlm2⟩ := hq0
  rw [show (k == k' && n == n' && r == r') = true by simp [e1, e2, e3], Bool.true_and] at hsame
  refine Tri.skip ?_;refine Y8 ?_;refine Tri.block (Tri.loopW (σ := {i : Nat // eqLM sameT (ks.take i) (ks'.take i) = true}) (fun i => ⟨[(2, .ptr 2 [] 32), (3, .ptr 3 [] 32), (5, iv .i64 i.1)], [(2, .var 32 (.pu (tmc 0 (.mk k n r ks cs)))), (3, .var 32 (.pu (tmc 0 (.mk k' n' r' ks' cs'))))]⟩) (fun i => ks.length - i.1) ⟨0, by simp [eqLM]⟩ ?_ ?_ (fun i => ?_))
  ·exact zW
  ·exact zW
  refine Y60 ?_;refine Tri.cond rfl (fun h1 => ?_) (fun h1 => ?_)
  ·skip
   have hi : i.1 < ks.length := by rw [tms_length] at h1; simpa using h1
   have hi2 : i.1 < ks'.length := by omega
   have htk := eqLM_take (φ := sameT) hi hi2
   rw [i.2, Bool.true_and] at htk
   refine Tri.skip ?_;refine tQ ?_;refine Tri.block ?_;refine Y45 ?_;refine s_val (v_index SS (h0 := by omega) (hp := tms_get hi)) ?_;refine yL ?_;refine Y46 ?_;refine s_val (v_index SS (h0 := by omega) (hp := tms_get hi2)) ?_;refine yL ?_;refine s_val (v_callD (fun _ => ih ks[i.1] ks'[i.1] (by have := tsizeL_get hi; omega) (by omega) (by have := tsizeL_get hi2; omega))) ?_;refine yQ ?_;refine Y38 ?_;refine Tri.cond rfl (fun h2 => ?_) (fun h2 => ?_)
   ·skip
    have hf : sameT (.mk k n r ks cs) (.mk k' n' r' ks' cs') = false := by rw [hsame, eqLM_stop (i := i.1 + 1) (by rw [htk]; simpa using h2)]; rfl
    refine Y8 ?_;exact Tri.ret ⟨.inr rfl, ret1 rfl resV_tmp (bv_imp hf.symm)⟩
   ·skip
    have hnext : eqLM sameT (ks.take (i.1 + 1)) (ks'.take (i.1 + 1)) = true := by rw [htk]; simpa using h2
    refine Tri.skip ?_;refine Y28 ?_
    refine ⟨⟨i.1 + 1, hnext⟩, by show ks.length - (i.1 + 1) < ks.length - i.1; omega, le_of ?_ ?_⟩
    ·exact zE
    ·exact zH
  ·skip
   have hks : eqLM sameT ks ks' = true := by
    have := i.2
    rwa [List.take_of_length_le (by rw [tms_length] at h1; simp at h1; omega), List.take_of_length_le (by rw [tms_length] at h1; simp at h1; omega)] at this
   rw [hks, Bool.true_and] at hsame
   refine Tri.exit ?_;refine Y8 ?_;refine Tri.block (Tri.loopW (σ := {i : Nat // eqLM sameC (cs.take i) (cs'.take i) = true}) (fun i => ⟨[(2, .ptr 2 [] 32), (3, .ptr 3 [] 32), (6, iv .i64 i.1)], [(2, .var 32 (.pu (tmc 0 (.mk k n r ks cs)))), (3, .var 32 (.pu (tmc 0 (.mk k' n' r' ks' cs'))))]⟩) (fun i => cs.length - i.1) ⟨0, by simp [eqLM]⟩ ?_ ?_ (fun i => ?_))
   ·exact zW
   ·exact zW
   refine Y60 ?_;refine Tri.cond rfl (fun h3 => ?_) (fun h3 => ?_)
   ·skip
    have hi : i.1 < cs.length := by rw [css_length] at h3; simpa using h3
    have hi2 : i.1 < cs'.length := by omega
    have htk := eqLM_take (φ := sameC) hi hi2
    rw [i.2, Bool.true_and] at htk
    have hz := csizeL_get hi
    have hz2 := csizeL_get hi2
    have hg := css_get (lo := 0) hi
    have hg2 := css_get (lo := 0) hi2
    generalize cs[i.1] = c at htk hz hg
    generalize cs'[i.1] = c' at htk hz2 hg2
    obtain ⟨q, x⟩ := c
    obtain ⟨q', x'⟩ := c'
    simp only [csize] at hz hz2
    simp only [sameC] at htk
    refine Tri.skip ?_;refine tQ ?_;refine Tri.block ?_;refine Y45 ?_;refine s_val (v_index SS (h0 := by omega) (hp := hg)) ?_;refine Y4 ?_;refine Y46 ?_;refine s_val (v_index SS (h0 := by omega) (hp := hg2)) ?_;refine Y4 ?_;refine s_val (v_callD (fun _ => rsameP_c _ q q' (Nat.le_refl _) (by omega) (by omega))) ?_;refine yQ ?_;refine Y11 ?_;refine xM ?_;refine s_gg zG (v_index SS (h0 := by omega) (hp := hg)) ?_;refine Y5 ?_;refine Y5 ?_;refine xM ?_;refine s_gg zG (v_index SS (h0 := by omega) (hp := hg2)) ?_;refine Y5 ?_;refine s_gg zG (v_callD (fun _ => ih x x' (by omega) (by omega) (by omega))) ?_;refine xQ ?_;refine yO ?_;refine Y38 ?_;refine Tri.cond rfl (fun h4 => ?_) (fun h4 => ?_)
    ·skip
     have hf : sameT (.mk k n r ks cs) (.mk k' n' r' ks' cs') = false := by
      rw [hsame];refine eqLM_stop (i := i.1 + 1) ?_;rw [htk]
      cases hA : sameP q q' <;> cases hB : sameT x x' <;> simp_all
     refine Y8 ?_;exact Tri.ret ⟨.inr rfl, ret1 rfl resV_tmp (bv_imp hf.symm)⟩
    ·skip
     have hnext : eqLM sameC (cs.take (i.1 + 1)) (cs'.take (i.1 + 1)) = true := by
      rw [htk]
      cases hA : sameP q q' <;> cases hB : sameT x x' <;> simp_all
     refine Tri.skip ?_;refine Y28 ?_
     refine ⟨⟨i.1 + 1, hnext⟩, by show cs.length - (i.1 + 1) < cs.length - i.1; omega, le_of ?_ ?_⟩
     ·exact zE
     ·exact zH
   ·skip
    have hf : sameT (.mk k n r ks cs) (.mk k' n' r' ks' cs') = true := by
     have := i.2
     rw [hsame]
     rwa [List.take_of_length_le (by rw [css_length] at h3; simp at h3; omega), List.take_of_length_le (by rw [css_length] at h3; simp at h3; omega)] at this
    refine Tri.exit ?_;refine Y8 ?_;exact Tri.ret ⟨.inr rfl, ret1 rfl resV_tmp (bv_imp hf.symm)⟩
end Go.Proofs.YtkcgkignhpepkaaGreatDoor

/- What is seen of a value. -/
namespace Go.Proofs.YtkcgkignhpepkaaGreatDoor
open Go Hs
variable {G : List (Nat × TypeId × Pu)}
mutual
def seenM : Tm → Tm
 | .mk k n r ks _ => if k = 3 then .mk 3 0 Z32 [.mk 2 0 Z32 [] []] [] else .mk k n r (seenL ks) []
def seenL : List Tm → List Tm
 | [] => []
 | t :: ts => seenM t :: seenL ts
end
theorem seenL_eq : ∀ ks, seenL ks = ks.map seenM
 | [] => rfl
 | t :: ts => by simp only [seenL, List.map_cons, seenL_eq ts]
mutual
def ncT : Tm → Prop
 | .mk k _ _ ks cs => k = 3 ∨ (cs = [] ∧ ncL ks)
def ncL : List Tm → Prop
 | [] => True
 | t :: ts => ncT t ∧ ncL ts
end
theorem ncL_mem : ∀ {ks : List Tm}, ncL ks → ∀ x ∈ ks, ncT x
 | _ :: _, h, x, hx => by
  rcases List.mem_cons.1 hx with rfl | hx
  ·exact h.1
  ·exact ncL_mem h.2 x hx
mutual
theorem val_nc : ∀ {t : Tm}, valM t = true → shT t → lcT t → ncT t
 | .mk k n r ks cs, hv, hs, hl => by
  by_cases h3 : k = 3
  ·exact .inl h3
  have hk : k = 2 ∨ k = 8 := by
   simp only [valM, Bool.or_eq_true, Bool.and_eq_true, beq_iff_eq] at hv
   omega
  have hc : cs = [] := by
   have := hl.1.1
   have hh : hasCasesM k = false := by rcases hk with rfl | rfl <;> rfl
   rw [hh] at this
   simp only [clashM, Bool.not_false, Bool.and_true, Bool.or_eq_false_iff, decide_eq_false_iff_not] at this
   exact List.eq_nil_of_length_eq_zero (by omega)
  refine .inr ⟨hc, ?_⟩
  rcases hk with rfl | rfl
  ·have : ks = [] := by
    have := hs.1
    simp [kidsM] at this
    exact this
   rw [this]; trivial
  ·simp only [valM, Bool.or_eq_true, Bool.and_eq_true, beq_iff_eq] at hv
   have hv' : valL ks = true := by
    rcases hv with (h | h) | h
    ·omega
    ·omega
    ·exact h.2
   exact valL_nc hv' hs.2.2.1 hl.2.1
theorem valL_nc : ∀ {ts : List Tm}, valL ts = true → shL ts → lcK ts → ncL ts
 | [], _, _, _ => trivial
 | t :: ts, hv, hs, hl => by
  simp only [valL, Bool.and_eq_true] at hv
  exact ⟨val_nc hv.1 hs.1 hl.1, valL_nc hv.2 hs.2 hl.2⟩
end
theorem nc_none : ncT noneM := .inr ⟨rfl, trivial⟩
theorem nocase_imp {P : Program} {m : Nat} {T E : TypeId} {a b c d : Pu} : VImp P (.pu (.agg T [a, b, c, d, .sl 0 E []])) (.pu (.agg T [a, b, c, d, .sl m E []])) := fun C w x hx => by
 cases hx with
 | one h1 h2 =>
  refine .one (.pu ?_) h2
  have h := h1.pu_inv
  generalize x.cells.toList = z at h
  cases h with
  | agg hc h =>
   refine .agg hc ?_
   cases h with | cons p0 s0 t0 h =>
   cases h with | cons p1 s1 t1 h =>
   cases h with | cons p2 s2 t2 h =>
   cases h with | cons p3 s3 t3 h =>
   cases h with | cons p4 s4 t4 h =>
   cases h
   refine .cons p0 s0 t0 (.cons p1 s1 t1 (.cons p2 s2 t2 (.cons p3 s3 t3 (.cons ?_ s4 t4 .nil))))
   cases p4 with
   | sl0 => exact .sl0
   | sl hn => exact (hn rfl).elim
theorem seen_c : ∀ (N : Nat) (t : Tm), tsize t ≤ N → N < 2^30 → ncT t → FCallN Tryz.prog G 128 [.pu (tmc 0 t)] (fun m => .pu (tmc m (seenM t))) := by
 intro N
 induction N with
 | zero => intro t h; have := tsize_pos t; omega
 | succ N ih =>
 intro t hp hN hnc
 obtain ⟨k, n, r, ks, cs⟩ := t
 simp only [tsize] at hp
 have hlen := length_tsizeL ks
 refine FCallN.of_tri tbl 30 Tryz.func128 rfl rfl (fun _ => rfl) fun w0 M ρ0 D0 hM => ?_
 refine yR ?_;refine s_box SS 1 ?_;refine s_alloc SS 2 ?_;refine e_seqN [1, 2] ?_;refine Y21 ?_;refine Y0 ?_;refine Tri.cond rfl (fun h0 => ?_) (fun h0 => ?_)
 ·skip
  have hk : k = 3 := by simpa using h0
  have hfin : seenM (.mk k n r ks cs) = .mk 3 0 Z32 [.mk 2 0 Z32 [] []] [] := by rw [seenM, if_pos hk]
  refine yR ?_;refine yP ?_;refine s_sl SS (lo := w0.heap.size) (ps := [tmc w0.heap.size (.mk 2 0 Z32 [] [])]) ?_;refine Y71 ?_;exact Tri.ret ⟨.inr rfl, ret1 rfl resV_cell ((by rw [hfin]; exact ToPu.imp (by repeat constructor)))⟩
 ·skip
  have hk : ¬ k = 3 := by simpa using h0
  obtain ⟨hcs, hnk⟩ := hnc.resolve_left hk
  subst hcs
  have hfin : seenM (.mk k n r ks []) = .mk k n r (seenL ks) [] := by rw [seenM, if_neg hk]
  refine Tri.skip ?_;refine Y14 ?_;refine Y10 ?_;refine yR ?_;refine Y58 ?_;refine Y1 ?_;refine Y36 ?_;refine Tri.block (Tri.loopW (σ := Nat) (fun i => ⟨[(1, .ptr 1 [] 32), (2, .ptr 2 [] 32), (15, .pu (.sl 0 32 (tmsc 0 ks))), (16, iv .i64 (tmsc 0 ks).length), (17, iv .i64 i)], [(1, .var 32 (.agg 32 [iv .i64 k, iv .i64 n, .pu (refP r), .ow w0.heap.size 32 (tmsc w0.heap.size (seenL (ks.take i))), .pu (.sl 0 106 [])])), (2, .var 32 (.agg 32 [iv .i64 0, iv .i64 0, .pu (refP Z32), .nilc, .nilc]))]⟩) (fun i => ks.length - i) 0 ?_ ?_ (fun i => ?_))
  ·repeat (first | exact .nil | refine .cons rfl (by first | exact .refl | (focus ((repeat constructor); done)) | (exact .var (.agg (.cons .refl (.cons .refl (.cons .refl (.cons .nilcOw (.cons .refl .nil)))))))) ?_)
  ·repeat (first | exact .nil | refine .cons rfl (by first | exact .refl | (focus ((repeat constructor); done)) | (exact .var (.agg (.cons .refl (.cons .refl (.cons .refl (.cons .nilcOw (.cons .refl .nil)))))))) ?_)
  refine Y39 ?_;refine Tri.cond rfl (fun h1 => ?_) (fun h1 => ?_)
  ·skip
   have hi : i < ks.length := by rw [tms_length] at h1; simpa using h1
   have hsz := tsize_mem (List.getElem_mem hi)
   have hts : ∀ m, tmsc m (seenL (ks.take (i + 1))) = tmsc m (seenL (ks.take i)) ++ [tmc m (seenM ks[i])] := fun m => by
    rw [seenL_eq, seenL_eq, tms_eq, tms_eq, List.take_succ_eq_append_getElem hi, List.map_append, List.map_append]; rfl
   refine Tri.skip ?_;refine tQ ?_;refine Tri.block ?_;refine yR ?_;refine s_val (v_index SS (h0 := by omega) (hp := tms_get hi)) ?_;refine yL ?_;refine s_alloc SS 5 ?_;refine yS ?_;refine e_seqN [5] ?_;refine Y14 ?_;refine yL ?_;refine s_val (v_callN (fun m n h => (tmc_low h _).imp) (fun _ => ih ks[i] (by omega) (by omega) (ncL_mem hnk _ (List.getElem_mem hi)))) ?_;refine s_sl SS (lo := w0.heap.size) ?_;refine s_app2 1 [3] ?_ ?_
   ·simp [tms_eq, seenL_eq]; omega
   refine Y67 ?_;refine Y30 ?_
   refine ⟨i + 1, by omega, le_of ?_ ?_⟩
   ·repeat (first | exact SubE.nil | refine SubE.cons rfl (by first | rfl | (rw [wrap64 (by omega) (by omega)]; rfl) | (rw [hts]; rfl)) ?_)
   ·repeat (first | exact SubH.nil | refine SubH.cons rfl (by first | rfl | (rw [wrap64 (by omega) (by omega)]; rfl) | (rw [hts]; rfl)) ?_)
  ·skip
   have hi : ks.length ≤ i := by rw [tms_length] at h1; simpa using h1
   rw [List.take_of_length_le hi];refine Tri.exit ?_;refine Y64 ?_;exact Tri.ret ⟨.inr rfl, ret1 rfl resV_cell ((by rw [hfin]; exact VImp.trans (ToPu.imp (p := .agg 32 [.leaf (.int .i64 k), .leaf (.int .i64 n), refP r, .sl w0.heap.size 32 (tmsc w0.heap.size (seenL ks)), .sl 0 106 []]) (by repeat constructor)) nocase_imp))⟩
theorem rseen_c : ∀ (N : Nat) (t : Tm), tsize t ≤ N → N < 2^30 → FCall Tryz.prog G 53 [.pu (tmc 0 t)] (.pu (tmc 0 (seenM t))) := by
 intro N
 induction N with
 | zero => intro t h; have := tsize_pos t; omega
 | succ N ih =>
 intro t hp hN
 obtain ⟨k, n, r, ks, cs⟩ := t
 simp only [tsize] at hp
 have hlen := length_tsizeL ks
 refine FCall.of_tri tbl 37 Tryz.func53 rfl rfl rfl fun w0 M ρ0 D0 => ?_
 refine yR ?_;refine s_box SS 1 ?_;refine s_alloc SS 2 ?_;refine e_seqN [1, 2] ?_;refine Y21 ?_;refine Y0 ?_;refine Tri.cond rfl (fun h0 => ?_) (fun h0 => ?_)
 ·skip
  have hk : k = 3 := by simpa using h0
  have hfin : seenM (.mk k n r ks cs) = .mk 3 0 Z32 [.mk 2 0 Z32 [] []] [] := by rw [seenM, if_pos hk]
  refine yR ?_;refine yP ?_;refine s_sl SS (lo := 0) (ps := [tmc 0 (.mk 2 0 Z32 [] [])]) ?_;refine Y71 ?_;exact Tri.ret ⟨.inr rfl, ret1 rfl resV_cell ((by rw [hfin]; exact ToPu.imp (by repeat constructor)))⟩
 ·skip
  have hk : ¬ k = 3 := by simpa using h0
  have hfin : seenM (.mk k n r ks cs) = .mk k n r (seenL ks) [] := by rw [seenM, if_neg hk]
  refine Tri.skip ?_;refine Y13 ?_;refine Y49 ?_;refine yP ?_;refine s_alloc SS 3 ?_;refine yS ?_;refine e_seqN [3] ?_;refine Y8 ?_;refine Tri.block (Tri.loopW (σ := Nat) (fun i => ⟨[(1, .ptr 1 [] 32), (2, .ptr 2 [] 32), (3, .ptr 3 [] 32), (4, iv .i64 i)], [(1, .var 32 (.pu (tmc 0 (.mk k n r ks cs)))), (2, .var 32 (.agg 32 [iv .i64 0, iv .i64 0, .pu (refP Z32), .nilc, .nilc])), (3, .var 32 (.agg 32 [iv .i64 k, iv .i64 n, .pu (refP r), .ow 0 32 (tmsc 0 (seenL (ks.take i))), .nilc]))]⟩) (fun i => ks.length - i) 0 ?_ ?_ (fun i => ?_))
  ·repeat (first | exact .nil | refine .cons rfl (by first | exact .refl | (focus ((repeat constructor); done)) | (exact .var (.agg (.cons .refl (.cons .refl (.cons .refl (.cons .nilcOw (.cons .refl .nil)))))))) ?_)
  ·repeat (first | exact .nil | refine .cons rfl (by first | exact .refl | (focus ((repeat constructor); done)) | (exact .var (.agg (.cons .refl (.cons .refl (.cons .refl (.cons .nilcOw (.cons .refl .nil)))))))) ?_)
  refine Y60 ?_;refine Tri.cond rfl (fun h1 => ?_) (fun h1 => ?_)
  ·skip
   have hi : i < ks.length := by rw [tms_length] at h1; simpa using h1
   have hsz := tsize_mem (List.getElem_mem hi)
   have hts : ∀ m, tmsc m (seenL (ks.take (i + 1))) = tmsc m (seenL (ks.take i)) ++ [tmc m (seenM ks[i])] := fun m => by
    rw [seenL_eq, seenL_eq, tms_eq, tms_eq, List.take_succ_eq_append_getElem hi, List.map_append, List.map_append]; rfl
   refine Tri.skip ?_;refine tQ ?_;refine Tri.block ?_;refine Y14 ?_;refine Y46 ?_;refine s_val (v_index SS (h0 := by omega) (hp := tms_get hi)) ?_;refine yL ?_;refine s_val (v_callD (fun _ => ih ks[i] (by omega) (by omega))) ?_;refine s_sl SS (lo := 0) ?_;refine s_app2 3 [3] ?_ ?_
   ·simp [tms_eq, seenL_eq]; omega
   refine Y67 ?_;refine Y28 ?_
   refine ⟨i + 1, by omega, le_of ?_ ?_⟩
   ·repeat (first | exact SubE.nil | refine SubE.cons rfl (by first | rfl | (rw [wrap64 (by omega) (by omega)]; rfl) | (rw [hts]; rfl)) ?_)
   ·repeat (first | exact SubH.nil | refine SubH.cons rfl (by first | rfl | (rw [wrap64 (by omega) (by omega)]; rfl) | (rw [hts]; rfl)) ?_)
  ·skip
   have hi : ks.length ≤ i := by rw [tms_length] at h1; simpa using h1
   rw [List.take_of_length_le hi];refine Tri.exit ?_;refine Y64 ?_;exact Tri.ret ⟨.inr rfl, ret1 rfl resV_cell ((by rw [hfin]; exact ToPu.imp (by repeat constructor)))⟩
mutual
theorem seen_size : ∀ t : Tm, tsize (seenM t) ≤ 2 * tsize t
 | .mk k n r ks cs => by
  have := seenL_size ks
  simp only [seenM]
  split
  ·simp only [tsize, tsizeL, csizeL]; omega
  ·simp only [tsize, csizeL]; omega
theorem seenL_size : ∀ ts : List Tm, tsizeL (seenL ts) ≤ 2 * tsizeL ts
 | [] => by simp [seenL, tsizeL]
 | t :: ts => by
  have h1 := seen_size t
  have h2 := seenL_size ts
  have h3 := tsize_pos t
  simp only [seenL, tsizeL]; omega
end
end Go.Proofs.YtkcgkignhpepkaaGreatDoor

/- Ends of runs, and what is seen of them. -/
namespace Go.Proofs.YtkcgkignhpepkaaGreatDoor
open Go Hs
variable {G : List (Nat × TypeId × Pu)}
theorem place_stop : ∀ (N : Nat) (t : Tm), tsize t ≤ N → workI (walkM t (placeM t)).kind (walkM t (placeM t)).kids = none
 | 0, t, h => by have := tsize_pos t; omega
 | N + 1, .mk k n r ks cs, h => by
  have hpw := place_work k n r ks cs
  cases hw : workI k ks with
  | none => rw [hw] at hpw; simp only at hpw; rw [hpw]; exact hw
  | some j =>
   obtain ⟨hj1, x, hx, hxv⟩ := workI_some hw
   rw [hw] at hpw
   simp only [hx] at hpw
   have hxs := tsize_mem (List.mem_of_getElem? hx)
   simp only [tsize] at h
   rw [hpw]
   simp only [walkM, kids_mk, hx]
   exact place_stop N x (by omega)
theorem place_arg {t x : Tm} (hk : (walkM t (placeM t)).kind = 11) (hx : (walkM t (placeM t)).kids[0]? = some x) : valM x = true := by
 have h := place_stop _ t (Nat.le_refl _)
 rw [hk] at h
 unfold workI at h
 rw [show manyM 11 (walkM t (placeM t)).kids.length = 1 from rfl] at h
 rw [List.findIdx?_eq_none_iff] at h
 have := h x (by
  cases hks : (walkM t (placeM t)).kids with
  | nil => rw [hks] at hx; simp at hx
  | cons a l => rw [hks] at hx; simp at hx; subst hx; simp)
 simpa using this
theorem kind9 {ts : List KT} {t : Tm} (h : kindM ts t (placeM t) = 9) : (walkM t (placeM t)).kind = 11 := (kind_inv (show kindW ts (wayM t (placeM t)) (placeM t).length (walkM t (placeM t)) = 9 from h)).2.2.2.2.2.2.2.2 rfl
theorem kind19 {ts : List KT} {t : Tm} : 1 ≤ kindM ts t (placeM t) ∧ kindM ts t (placeM t) ≤ 9 := (kind_inv (show kindW ts (wayM t (placeM t)) (placeM t).length (walkM t (placeM t)) = kindM ts t (placeM t) from rfl)).2.2.2.2.2.2.2.1
theorem ranE_ok {ts : List KT} {steps : Nat} {t : Tm} {e : EndM} (hs : shT t) (hl : lcT t) (h : ranE ts steps t = some e) : ncT e.term := by
 unfold ranE at h
 split at h
 ·rename_i hv
  simp at h; subst h; exact val_nc hv hs hl
 ·split at h
  ·rename_i h9
   simp at h; subst h
   simp only
   cases hk : (walkM t (placeM t)).kids[0]? with
   | none => exact nc_none
   | some x => exact val_nc (place_arg (kind9 h9) hk) (sh_kid (sh_walk hs) hk) (lc_kid (lc_walk hl) hk)
  ·split at h
   ·simp at h; subst h; exact nc_none
   ·cases h
theorem ran_nc {ts : List KT} (hbs : ∀ x ∈ ts, shT x.2) (hbl : ∀ x ∈ ts, lcT x.2) : ∀ (left steps : Nat) (t : Tm), shT t → lcT t → ncT (ranM ts left steps t).1.term
 | 0, steps, t, hs, hl => by
  simp only [ranM]
  split
  ·rename_i e he; exact ranE_ok hs hl he
  ·exact nc_none
 | left + 1, steps, t, hs, hl => by
  simp only [ranM]
  split
  ·rename_i e he; exact ranE_ok hs hl he
  ·split
   ·exact nc_none
   ·exact ran_nc hbs hbl left (steps + 1) (nextM ts t) (does_sh hbs hs (place_ok hs) _) (does_lc hbl hl (place_ok hs) _)
theorem run_ok {ts : List KT} {t : Tm} (fuel : Int) : ncT (runM ts t fuel).1.term ∧ tsize (runM ts t fuel).1.term ≤ 3000 := by
 have hn1 : tsize noneM = 1 := by simp [noneM, tsize, tsizeL, csizeL]
 have hZ : ncT endZ.term ∧ tsize endZ.term ≤ 3000 := ⟨nc_none, by simp only [endZ]; omega⟩
 unfold runM
 split
 ·rename_i hc
  obtain ⟨_, k2, _, k4⟩ := stepCheck_ok hc
  have h1 := ran_nc (fun x hx => (check_sh (k2 x hx)).1) (fun x hx => check_lc (k2 x hx)) fuel.toNat 0 t (check_sh k4).1 (check_lc k4)
  have h2 := (ran_inv (fun x hx => (check_sh (k2 x hx)).1) fuel.toNat 0 t (check_sh k4).1 (by have := (check_sh k4).2; omega)).2
  split
  ·exact hZ
  ·split
   ·split
    ·exact ⟨h1, h2⟩
    ·split
     ·exact ⟨h1, h2⟩
     ·exact hZ
   ·exact hZ
 ·exact hZ
theorem end_wf {D : Nat → Nat → Prop} {w : World} {e : EndM} {x : List Value} (h : PR Tryz.prog D w (endP e) x) : e.ref.length = 32 := by
 obtain ⟨_, h⟩ := PR_agg h
 obtain ⟨_, _, _, h⟩ := PRs_cons h
 obtain ⟨_, _, _, h⟩ := PRs_cons h
 obtain ⟨_, _, _, h⟩ := PRs_cons h
 obtain ⟨⟨_, h⟩, _⟩ := PRs_cons h
 exact ref_len h
theorem same1_c (e : EndM) (hnc : ncT e.term) (hz : tsize e.term < 2^30) : FCall Tryz.prog G 127 [.pu (endP e)] (.pu (tmc 0 (seenM e.term))) := by
 obtain ⟨ek, es, et, er, en⟩ := e
 refine FCall.of_tri tbl 6 Tryz.func127 rfl rfl rfl fun w0 M ρ0 D0 => ?_
 refine yR ?_;refine s_box SS 1 ?_;refine s_alloc SS 2 ?_;refine e_seqN [1, 2] ?_;refine Y13 ?_;refine s_val (v_callD (fun _ => (seen_c _ et (Nat.le_refl _) hz hnc).at (lowAt _))) ?_;refine Y23 ?_;exact Tri.ret ⟨.inr rfl, ret1 rfl resV_cell (ToPu.imp (by repeat constructor))⟩
def viewP (a b : Int) : Pu := .agg 193 [.leaf (.int .i64 a), .leaf (.int .i64 b)]
instance (a b : Int) : TyV Tryz.prog 193 (.pu (viewP a b)) := inferInstanceAs (TyV Tryz.prog 193 (.pu (.agg _ _)))
theorem view_cond (a b a' b' : Int) : Tryz.prog.eqGuardType Tryz.prog.depth 193 = false ∧ 193 < Tryz.prog.types.size ∧ tyP Tryz.prog 193 (viewP a b) = true ∧ tyP Tryz.prog 193 (viewP a' b') = true :=
 ⟨by kernel_rfl, of_decide_eq_true (by kernel_rfl), (show tyV Tryz.prog 193 (.pu (viewP a b)) = true from TyV.ok), (show tyV Tryz.prog 193 (.pu (viewP a' b')) = true from TyV.ok)⟩
theorem peq_view (d : Nat) (a b a' b' : Int) : peqT Tryz.prog (d + 2) 193 (viewP a b) (viewP a' b') = some ((a == a') && ((b == b') && true)) := by
 have hu : Tryz.prog.underlying 193 = some (.array 2 3) := by kernel_rfl
 have hi : Tryz.prog.underlying 3 = some (.int .i64) := by kernel_rfl
 unfold viewP
 simp only [peqT, hu, peqL, hi, if_true]
theorem bin_eqW (a b a' b' : Int) : binV Tryz.prog .eql 193 (.pu (viewP a b)) (.pu (viewP a' b')) = some (bv ((a == a') && ((b == b') && true))) := by
 have h1 := view_cond a b a' b'
 have h2 := fun e => peq_view e a b a' b'
 unfold viewP at h1 h2 ⊢
 simp only [binV, if_pos h1]
 generalize hd : (100 : Nat) = d
 obtain ⟨e, rfl⟩ : ∃ e, d = e + 2 := ⟨98, by omega⟩
 rw [h2 e]
def alikeM (a b : EndM) : Bool := ((a.kind == b.kind) && ((a.num == b.num) && true)) && (a.ref == b.ref) && sameT (seenM a.term) (seenM b.term)
def sameM (ts : List KT) (t u : Tm) (fuel : Int) : Bool × Int :=
 if stepCheckM ts t = 0 then (if stepCheckM ts u = 0 then (if (runM ts t fuel).2 = 0 then (if (runM ts u fuel).2 = 0 then (alikeM (runM ts t fuel).1 (runM ts u fuel).1, 0) else (false, (runM ts u fuel).2)) else (false, (runM ts t fuel).2)) else (false, stepCheckM ts u)) else (false, stepCheckM ts t)
abbrev sameV (x : Bool × Int) : PV := .tup [bv x.1, iv .i64 x.2]
set_option maxHeartbeats 1000000 in
theorem same_c (a b : Pu) (ts : List KT) (t u : Tm) (fuel : Int) (hts : ∀ x ∈ ts, tsize x.2 < 2^40) (hN : tsize t < 2^40) (hM : tsize u < 2^40) : FCall Tryz.prog G 56 [.pu (wdP a b ts), .pu (tmc 0 t), .pu (tmc 0 u), iv .i64 fuel] (sameV (sameM ts t u fuel)) := by
 refine FCall.of_tri tbl 79 Tryz.func56 rfl rfl rfl fun w0 M ρ0 D0 => ?_
 refine yR ?_;refine s_box SS 4 ?_;refine s_box SS 5 ?_;refine s_box SS 6 ?_;refine yB ?_;refine yB ?_;refine e_seqN [4, 5, 6] ?_;refine Y33 ?_;refine yZ ?_;refine Y36 ?_;refine Tri.block (Tri.loopW (σ := {i : Nat // i ≤ 2 ∧ (1 ≤ i → stepCheckM ts t = 0) ∧ (2 ≤ i → stepCheckM ts u = 0)}) (fun i => ⟨[(3, iv .i64 fuel), (4, .ptr 4 [] 26), (5, .ptr 5 [] 32), (6, .ptr 6 [] 32), (19, .pu (.sl 0 32 [tmc 0 t, tmc 0 u])), (20, iv .i64 2), (21, iv .i64 i.1)], [(4, .var 26 (.pu (wdP a b ts))), (5, .var 32 (.pu (tmc 0 t))), (6, .var 32 (.pu (tmc 0 u)))]⟩) (fun i => 2 - i.1) ⟨0, by omega, by omega, by omega⟩ ?_ ?_ (fun i => ?_))
 ·exact zW
 ·exact zW
 obtain ⟨i, hi2, hi0, hi1⟩ := i
 dsimp only at hi2 hi0 hi1 ⊢
 refine Y39 ?_;refine Tri.cond rfl (fun h0 => ?_) (fun h0 => ?_)
 ·skip
  have hlt : i < 2 := by have := of_decide_eq_true h0; omega
  obtain ⟨x, hx, hxz, hxs⟩ : ∃ x, [tmc 0 t, tmc 0 u][i]? = some (tmc 0 x) ∧ tsize x < 2^40 ∧ (x = t ∧ i = 0 ∨ x = u ∧ i = 1) := by
   obtain rfl | rfl : i = 0 ∨ i = 1 := by omega
   ·exact ⟨t, rfl, hN, .inl ⟨rfl, rfl⟩⟩
   ·exact ⟨u, rfl, hM, .inr ⟨rfl, rfl⟩⟩
  refine Tri.skip ?_;refine tQ ?_;refine Tri.block ?_;refine yR ?_;refine s_val (v_index SS (h0 := by omega) (hp := hx)) ?_;refine yL ?_;refine s_alloc SS 11 ?_;refine yS ?_;refine e_seqN [11] ?_;refine Y33 ?_;refine s_val (v_callD (fun _ => stepCheck_c a b ts x hts hxz)) ?_;refine Y47 ?_;refine Tri.cond rfl (fun h1 => ?_) (fun h1 => ?_)
  ·skip
   have hne : ¬ stepCheckM ts x = 0 := by simpa using h1
   have hfin : sameM ts t u fuel = (false, stepCheckM ts x) := by
    rcases hxs with ⟨rfl, rfl⟩ | ⟨rfl, rfl⟩
    ·rw [sameM, if_neg hne]
    ·rw [sameM, if_pos (hi0 (by omega)), if_neg hne]
   refine Y1 ?_;refine yB ?_;refine Y2 ?_;exact Tri.ret ⟨.inr rfl, ret2 rfl resV_tmp ((by rw [hfin]; exact VImp.refl _)) resV_tmp ((by rw [hfin]; exact VImp.refl _))⟩
  ·skip
   have heq : stepCheckM ts x = 0 := by simpa using h1
   have hnext : i + 1 ≤ 2 ∧ (1 ≤ i + 1 → stepCheckM ts t = 0) ∧ (2 ≤ i + 1 → stepCheckM ts u = 0) := by
    rcases hxs with ⟨rfl, rfl⟩ | ⟨rfl, rfl⟩
    ·exact ⟨by omega, fun _ => heq, fun h => by omega⟩
    ·exact ⟨by omega, fun _ => hi0 (by omega), fun _ => heq⟩
   refine Tri.skip ?_;refine Y30 ?_
   refine ⟨⟨i + 1, hnext⟩, by show 2 - (i + 1) < 2 - i; omega, le_of ?_ ?_⟩
   ·exact zE
   ·exact zH
 ·skip
  have hge : 2 ≤ i := by have := of_decide_eq_false h0; omega
  have ht := hi0 (by omega)
  have hu := hi1 hge
  have hr1 := run_c (G := G) a b ts t fuel hts hN
  have hr2 := run_c (G := G) a b ts u fuel hts hM
  have hk1 := run_ok (ts := ts) (t := t) fuel
  have hk2 := run_ok (ts := ts) (t := u) fuel
  have hsm : sameM ts t u fuel = if (runM ts t fuel).2 = 0 then (if (runM ts u fuel).2 = 0 then (alikeM (runM ts t fuel).1 (runM ts u fuel).1, 0) else (false, (runM ts u fuel).2)) else (false, (runM ts t fuel).2) := by rw [sameM, if_pos ht, if_pos hu]
  generalize runM ts t fuel = R1 at hr1 hk1 hsm
  generalize runM ts u fuel = R2 at hr2 hk2 hsm
  obtain ⟨⟨k1, s1, t1, f1, n1⟩, r1⟩ := R1
  obtain ⟨⟨k2, s2, t2, f2, n2⟩, r2⟩ := R2
  dsimp only at hk1 hk2 hsm
  refine Tri.exit ?_;refine Y33 ?_;refine yM ?_;refine s_val (v_callD (fun _ => hr1)) ?_;refine Y35 ?_;refine s_alloc SS 13 ?_;refine yS ?_;refine yA ?_;refine e_seqN [13] ?_;refine Tri.fact (i := 37) rfl (fun D w x h => end_wf h) (fun hw1 => ?_);refine Y34 ?_;refine Tri.cond rfl (fun h2 => ?_) (fun h2 => ?_)
  ·skip
   have hne : ¬ r1 = 0 := by simpa using h2
   rw [if_neg hne] at hsm
   refine Y1 ?_;refine yB ?_;refine Y2 ?_;exact Tri.ret ⟨.inr rfl, ret2 rfl resV_tmp ((by rw [hsm]; exact VImp.refl _)) resV_tmp ((by rw [hsm]; exact VImp.refl _))⟩
  ·skip
   have he1 : r1 = 0 := by simpa using h2
   rw [if_pos he1] at hsm
   refine Tri.skip ?_;refine Y33 ?_;refine yM ?_;refine s_val (v_callD (fun _ => hr2)) ?_;refine Y35 ?_;refine s_alloc SS 15 ?_;refine yS ?_;refine yA ?_;refine e_seqN [15] ?_;refine Tri.fact (i := 47) rfl (fun D w x h => end_wf h) (fun hw2 => ?_);refine Y34 ?_;refine Tri.cond rfl (fun h3 => ?_) (fun h3 => ?_)
   ·skip
    have hne : ¬ r2 = 0 := by simpa using h3
    rw [if_neg hne] at hsm
    refine Y1 ?_;refine yB ?_;refine Y2 ?_;exact Tri.ret ⟨.inr rfl, ret2 rfl resV_tmp ((by rw [hsm]; exact VImp.refl _)) resV_tmp ((by rw [hsm]; exact VImp.refl _))⟩
   ·skip
    have he2 : r2 = 0 := by simpa using h3
    rw [if_pos he2] at hsm
    have hz1 := seen_size t1
    have hz2 := seen_size t2
    refine Tri.skip ?_;refine Y19 ?_;refine Y13 ?_;refine Y4 ?_;refine yP ?_;refine Y49 ?_;refine yP ?_;refine s_val (v_bin SS (h := bin_eqW _ _ _ _)) ?_;refine Y25 ?_;refine s_gg zG (v_bin SS (h := bin_eqS (hw1.trans hw2.symm))) ?_;refine yN ?_;refine Y22 ?_;refine xL ?_;refine s_gg zG (v_callO (fun _ => same1_c ⟨k1, s1, t1, f1, n1⟩ hk1.1 (by dsimp only; omega))) ?_;refine xM ?_;refine xL ?_;refine s_gg zG (v_callO (fun _ => same1_c ⟨k2, s2, t2, f2, n2⟩ hk2.1 (by dsimp only; omega))) ?_;refine s_gg zG (v_callD (fun _ => tsameT_c _ (seenM t1) (seenM t2) (Nat.le_refl _) (by omega) (by omega))) ?_;refine yN ?_;refine yA ?_;refine yB ?_;refine Y38 ?_
    exact Tri.ret ⟨.inr rfl, ret2 rfl resV_tmp ((by rw [hsm]; exact bv_imp rfl)) resV_tmp ((by rw [hsm]; exact VImp.refl _))⟩
def mseenM (t : Tm) : Tm × Int := if checkM t 0 0 = 0 then (if valM t = true then (seenM t, 0) else (noneM, 6)) else (noneM, checkM t 0 0)
theorem stepSeen_c (t : Tm) (hN : tsize t < 2^40) : FCallN Tryz.prog G 57 [.pu (tmc 0 t)] (fun m => stepV m (mseenM t)) := by
 refine FCallN.of_tri tbl 17 Tryz.func57 rfl rfl (fun _ => rfl) fun w0 M ρ0 D0 hM => ?_
 refine yR ?_;refine s_box SS 1 ?_;refine s_alloc SS 2 ?_;refine yB ?_;refine e_seqN [1, 2] ?_;refine Y6 ?_;refine s_val (v_callD (fun _ => check_c t hN 0 0)) ?_;refine Y47 ?_;refine Tri.cond rfl (fun h0 => ?_) (fun h0 => ?_)
 ·skip
  have h0' : ¬ checkM t 0 0 = 0 := by simpa using h0
  have hfin : mseenM t = (noneM, checkM t 0 0) := by rw [mseenM, if_neg h0']
  refine Y50 ?_;refine yM ?_;refine yS ?_;refine Y2 ?_;exact Tri.ret ⟨.inr rfl, ret2 rfl resV_cell ((by rw [hfin]; exact ToPu.imp (by unfold noneM; repeat constructor))) resV_tmp ((by rw [hfin]; exact VImp.refl _))⟩
 ·skip
  have h0' : checkM t 0 0 = 0 := by simpa using h0
  obtain ⟨k5, k6⟩ := check_sh h0'
  refine Tri.skip ?_;refine Y6 ?_;refine s_val (v_callD (fun _ => value_c _ t (Nat.le_refl _) (by omega))) ?_;refine Y74 ?_;refine Tri.cond rfl (fun h1 => ?_) (fun h1 => ?_)
  ·skip
   have h1' : ¬ valM t = true := by simpa using h1
   have hfin : mseenM t = (noneM, 6) := by rw [mseenM, if_pos h0', if_neg h1']
   refine Y50 ?_;refine Y53 ?_;exact Tri.ret ⟨.inr rfl, ret2 rfl resV_cell ((by rw [hfin]; exact ToPu.imp (by unfold noneM; repeat constructor))) resV_tmp ((by rw [hfin]; exact VImp.refl _))⟩
  ·skip
   have h1' : valM t = true := by simpa using h1
   have hfin : mseenM t = (seenM t, 0) := by rw [mseenM, if_pos h0', if_pos h1']
   refine Tri.skip ?_;refine Y6 ?_;refine s_val (v_callN (fun m n h => (tmc_low h _).imp) (fun _ => seen_c _ t (Nat.le_refl _) (by omega) (val_nc h1' k5 (check_lc h0')))) ?_;refine Y53 ?_;exact Tri.ret ⟨.inr rfl, ret2 rfl resV_cell ((by rw [hfin]; exact VImp.refl _)) resV_tmp ((by rw [hfin]; exact VImp.refl _))⟩
end Go.Proofs.YtkcgkignhpepkaaGreatDoor

/- The reference: runs, and whether they end alike. -/
namespace Go.Proofs.YtkcgkignhpepkaaGreatDoor
open Go Hs
variable {G : List (Nat × TypeId × Pu)}
def rendP (e : EndM) : Pu := .agg 87 [.leaf (.int .i64 e.kind), .leaf (.int .i64 e.steps), tmc 0 e.term, refP e.ref, .leaf (.int .i64 e.num)]
instance (e : EndM) : TyV Tryz.prog 87 (.pu (rendP e)) := inferInstanceAs (TyV Tryz.prog 87 (.pu (.agg _ _)))
theorem rend_wf {D : Nat → Nat → Prop} {w : World} {e : EndM} {x : List Value} (h : PR Tryz.prog D w (rendP e) x) : e.ref.length = 32 := by
 obtain ⟨_, h⟩ := PR_agg h
 obtain ⟨_, _, _, h⟩ := PRs_cons h
 obtain ⟨_, _, _, h⟩ := PRs_cons h
 obtain ⟨_, _, _, h⟩ := PRs_cons h
 obtain ⟨⟨_, h⟩, _⟩ := PRs_cons h
 exact ref_len h
def rfin (x : EndM × Int) : EndM × Int := if x.2 = 0 then (if (longT 300 60 1 0 x.1.term).1 = true then (endZ, 11) else (x.1, 0)) else (endZ, x.2)
def rrunM (ts : List KT) (t : Tm) (fuel : Int) : EndM × Int := if fuel < 0 ∨ 2000 < fuel then (endZ, 3) else rfin (ranM ts fuel.toNat 0 t)
abbrev rranV (x : EndM × Int) : PV := .tup [.pu (rendP x.1), iv .i64 x.2]
set_option maxHeartbeats 4000000 in
theorem rrun_c (a b : Pu) (ts : List KT) (hts : ts.length < 2^40) (hb : ∀ x ∈ ts, gdT 0 x.2 ∧ tsize x.2 ≤ 300) (t0 : Tm) (hg : gdT 0 t0) (hN : tsize t0 ≤ 3000) (fuel : Int) :
  FCall Tryz.prog G 54 [.pu (wdP a b ts), .pu (tmc 0 t0), iv .i64 fuel] (rranV (rrunM ts t0 fuel)) := by
 have hn1 : tsize noneM = 1 := by simp [noneM, tsize, tsizeL, csizeL]
 refine FCall.of_tri tbl 89 Tryz.func54 rfl rfl rfl fun w0 M ρ0 D0 => ?_
 refine yR ?_;refine s_box SS 3 ?_;refine s_box SS 4 ?_;refine s_alloc SS 6 ?_;refine yB ?_;refine e_seqN [3, 4, 6] ?_;refine Y44 ?_;refine Y59 ?_;refine Tri.cond rfl (fun h0 => ?_) (fun h0 => ?_)
 ·skip
  have hfin : rrunM ts t0 fuel = (endZ, 3) := by rw [rrunM, if_pos (by simpa using h0)]
  refine Y50 ?_;refine Y53 ?_;exact Tri.ret ⟨.inr rfl, ret2 rfl resV_cell ((by rw [hfin]; exact ToPu.imp (by unfold endZ noneM; repeat constructor))) resV_tmp ((by rw [hfin]; exact VImp.refl _))⟩
 ·skip
  have hm0 : ¬ (fuel < 0 ∨ 2000 < fuel) := by simp at h0; omega
  obtain ⟨fl, hfl⟩ : ∃ fl : Nat, fuel = fl := ⟨fuel.toNat, by omega⟩
  subst hfl
  have hst : rrunM ts t0 fl = rfin (ranM ts fl 0 t0) := by rw [rrunM, if_neg hm0, Int.toNat_natCast]
  refine Tri.skip ?_;refine Y8 ?_;refine Tri.block (Tri.loopW (σ := {q : Nat × Tm // q.1 ≤ fl ∧ ranM ts fl 0 t0 = ranM ts (fl - q.1) q.1 q.2 ∧ gdT 0 q.2 ∧ tsize q.2 ≤ 3000}) (fun i => ⟨[(2, iv .i64 fl), (8, iv .i64 i.1.1), (3, .ptr 3 [] 26), (4, .ptr 4 [] 32), (6, .ptr 6 [] 87)], [(3, .var 26 (.pu (wdP a b ts))), (4, .var 32 (.pu (tmc 0 i.1.2))), (6, .var 87 (.agg 87 [iv .i64 0, iv .i64 0, .agg 32 [iv .i64 0, iv .i64 0, .pu (refP Z32), .nilc, .nilc], .pu (refP Z32), iv .i64 0]))]⟩) (fun i => fl - i.1.1) ⟨(0, t0), Nat.zero_le _, rfl, hg, hN⟩ ?_ ?_ (fun i => ?_))
  ·exact zW
  ·exact zW
  refine tQ ?_;refine Tri.block ?_
  obtain ⟨⟨st, t⟩, hsl, hrn, hgt, hzt⟩ := i
  dsimp only at hsl hrn hgt hzt ⊢
  rw [hrn] at hst
  have hok := place_ok (gd_sh hgt)
  have hnx := rnext_c (G := G) a b ts hts t hgt (by omega)
  obtain ⟨kd, p, hkp, h0v, h1v⟩ := rnext_cases ts t
  rw [hkp] at hnx
  refine Y33 ?_;refine s_val (v_callD (fun _ => hnx)) ?_;refine Y65 ?_;refine Y10 ?_;refine Y20 ?_;refine yP ?_;refine s_alloc SS 11 ?_;refine yS ?_;refine e_seqN [11] ?_;refine tQ ?_;refine Tri.block ?_;refine Y56 ?_;refine Tri.cond rfl (fun h1 => ?_) (fun h1 => ?_)
  ·skip
   have e0 : kd = 0 := by simpa using h1
   have hv := h0v e0
   subst e0
   have hre : ranM ts (fl - st) st t = (⟨0, st, t, Z32, 0⟩, 0) := ran_some (by simp only [ranE, hv, if_true])
   have hri := rright_c (G := G) t (by omega)
   rw [hre, rfin, if_pos rfl] at hst
   dsimp only at hst
   generalize (longT 300 60 1 0 t).1 = lb at hri hst
   refine Y6 ?_;refine Y58 ?_;refine Y13 ?_;refine s_val (v_callD (fun _ => hri)) ?_;refine Y47 ?_;refine Tri.cond rfl (fun h6 => ?_) (fun h6 => ?_)
   ·skip
    have hlb : lb = true := by cases lb <;> simp at h6 ⊢
    subst hlb
    rw [if_pos rfl] at hst
    refine Y50 ?_;refine yM ?_;refine yS ?_;refine Y2 ?_;exact Tri.ret ⟨.inr rfl, ret2 rfl resV_cell ((by rw [hst]; exact ToPu.imp (by unfold endZ noneM; repeat constructor))) resV_tmp ((by rw [hst]; exact VImp.refl _))⟩
   ·skip
    have hlb : lb = false := by cases lb <;> simp at h6 ⊢
    subst hlb
    rw [if_neg (by decide)] at hst
    refine Tri.skip ?_;refine Y6 ?_;refine Y53 ?_;exact Tri.ret ⟨.inr rfl, ret2 rfl resV_cell ((by rw [hst]; exact ToPu.imp (by repeat constructor))) resV_tmp ((by rw [hst]; exact VImp.refl _))⟩
  ·skip
   obtain ⟨hv, hk, hp⟩ := h1v (by simpa using h1)
   subst hp
   have hv' : ¬ valM t = true := by rw [hv]; decide
   refine Y56 ?_;refine Tri.cond rfl (fun h2 => ?_) (fun h2 => ?_)
   ·skip
    have e9 : kd = 9 := by simpa using h2
    subst e9
    have hk11 := kind9 hk
    have hwg := gd_place hgt
    have hws := walk_size (t := t) (p := placeM t)
    obtain ⟨x, hx⟩ := len1 (gd_sh hwg) (.inr (.inr hk11))
    have hxz := kid_size hx
    have hat := rat_c (G := G) t (placeM t) hok (by have := path_size hok; omega)
    have hre : ranM ts (fl - st) st t = (⟨9, st, x, (walkM t (placeM t)).ref, (walkM t (placeM t)).num⟩, 0) := ran_some (by simp only [ranE, if_neg hv', hk, if_true, hx, Option.getD])
    generalize walkM t (placeM t) = w at hx hre hat hxz hws
    obtain ⟨k, n, r, ks, cs⟩ := w
    simp only [kids_mk, ref_mk, num_mk] at hx hre
    have hxg : (tmsc 0 ks)[0]? = some (tmc 0 x) := by simp [tms_eq, hx]
    have hri := rright_c (G := G) x (by omega)
    rw [hre, rfin, if_pos rfl] at hst
    dsimp only at hst
    generalize (longT 300 60 1 0 x).1 = lb at hri hst
    refine Y54 ?_;refine s_val (v_callD (fun _ => hat)) ?_;refine s_alloc SS 12 ?_;refine yS ?_;refine e_seqN [12] ?_;refine Y14 ?_;refine s_val (v_index SS (h0 := by omega) (hp := hxg)) ?_;refine yL ?_;refine Y49 ?_;refine yF ?_;refine yS ?_;refine yF ?_;refine yS ?_;refine yF ?_;refine yS ?_;refine e_draw ?_;refine Y13 ?_;refine s_val (v_callD (fun _ => hri)) ?_;refine Y47 ?_;refine Tri.cond rfl (fun h6 => ?_) (fun h6 => ?_)
    ·skip
     have hlb : lb = true := by cases lb <;> simp at h6 ⊢
     subst hlb
     rw [if_pos rfl] at hst
     refine Y50 ?_;refine yM ?_;refine yS ?_;refine Y2 ?_;exact Tri.ret ⟨.inr rfl, ret2 rfl resV_cell ((by rw [hst]; exact ToPu.imp (by unfold endZ noneM; repeat constructor))) resV_tmp ((by rw [hst]; exact VImp.refl _))⟩
    ·skip
     have hlb : lb = false := by cases lb <;> simp at h6 ⊢
     subst hlb
     rw [if_neg (by decide)] at hst
     refine Tri.skip ?_;refine Y6 ?_;refine Y53 ?_;exact Tri.ret ⟨.inr rfl, ret2 rfl resV_cell ((by rw [hst]; exact ToPu.imp (by repeat constructor))) resV_tmp ((by rw [hst]; exact VImp.refl _))⟩
   ·skip
    have h9 : ¬ kd = 9 := by simpa using h2
    refine Y56 ?_;refine Tri.cond rfl (fun h3 => ?_) (fun h3 => ?_)
    ·skip
     have e8 : kd = 8 := by simpa using h3
     subst e8
     have hre : ranM ts (fl - st) st t = (⟨8, st, noneM, Z32, 0⟩, 0) := ran_some (by simp only [ranE, if_neg hv', hk]; rfl)
     have hri := rright_c (G := G) noneM (by omega)
     rw [hre, rfin, if_pos rfl] at hst
     dsimp only at hst
     generalize (longT 300 60 1 0 noneM).1 = lb at hri hst
     unfold noneM at hri hst
     refine Tri.skip ?_;refine Y13 ?_;refine s_val (v_callD (fun _ => hri)) ?_;refine Y47 ?_;refine Tri.cond rfl (fun h6 => ?_) (fun h6 => ?_)
     ·skip
      have hlb : lb = true := by cases lb <;> simp at h6 ⊢
      subst hlb
      rw [if_pos rfl] at hst
      refine Y50 ?_;refine yM ?_;refine yS ?_;refine Y2 ?_;exact Tri.ret ⟨.inr rfl, ret2 rfl resV_cell ((by rw [hst]; exact ToPu.imp (by unfold endZ noneM; repeat constructor))) resV_tmp ((by rw [hst]; exact VImp.refl _))⟩
     ·skip
      have hlb : lb = false := by cases lb <;> simp at h6 ⊢
      subst hlb
      rw [if_neg (by decide)] at hst
      refine Tri.skip ?_;refine Y6 ?_;refine Y53 ?_;exact Tri.ret ⟨.inr rfl, ret2 rfl resV_cell ((by rw [hst]; exact ToPu.imp (by repeat constructor))) resV_tmp ((by rw [hst]; exact VImp.refl _))⟩
    ·skip
     have h8 : ¬ kd = 8 := by simpa using h3
     have hre0 : ranE ts st t = none := by simp only [ranE, if_neg hv', hk, if_neg h9, if_neg h8]
     refine Y52 ?_;refine Y2 ?_;refine Tri.cond rfl (fun h4 => ?_) (fun h4 => ?_)
     ·skip
      have esf : st = fl := by simp at h4; omega
      have hre : ranM ts (fl - st) st t = (⟨10, st, noneM, Z32, 0⟩, 0) := by rw [show fl - st = 0 by omega]; simp only [ranM, hre0]
      have hri := rright_c (G := G) noneM (by omega)
      rw [hre, rfin, if_pos rfl] at hst
      dsimp only at hst
      generalize (longT 300 60 1 0 noneM).1 = lb at hri hst
      unfold noneM at hri hst
      refine yR ?_;refine Y58 ?_;refine Y13 ?_;refine s_val (v_callD (fun _ => hri)) ?_;refine Y47 ?_;refine Tri.cond rfl (fun h6 => ?_) (fun h6 => ?_)
      ·skip
       have hlb : lb = true := by cases lb <;> simp at h6 ⊢
       subst hlb
       rw [if_pos rfl] at hst
       refine Y50 ?_;refine yM ?_;refine yS ?_;refine Y2 ?_;exact Tri.ret ⟨.inr rfl, ret2 rfl resV_cell ((by rw [hst]; exact ToPu.imp (by unfold endZ noneM; repeat constructor))) resV_tmp ((by rw [hst]; exact VImp.refl _))⟩
      ·skip
       have hlb : lb = false := by cases lb <;> simp at h6 ⊢
       subst hlb
       rw [if_neg (by decide)] at hst
       refine Tri.skip ?_;refine Y6 ?_;refine Y53 ?_;exact Tri.ret ⟨.inr rfl, ret2 rfl resV_cell ((by rw [hst]; exact ToPu.imp (by repeat constructor))) resV_tmp ((by rw [hst]; exact VImp.refl _))⟩
     ·skip
      have hsf : st < fl := by simp at h4; omega
      have h19 := kind19 (ts := ts) (t := t)
      rw [hk] at h19
      have haf := rafter_c (G := G) a b ts hts t (placeM t) hgt hok (freeP_place t) hzt (place_zero _ t (Nat.le_refl _)) (fun x hx => ⟨(hb x hx).1, by have := (hb x hx).2; omega⟩) kd hk (by omega)
      have hyz := does_sz (fun x hx => (hb x hx).2) hok hzt kd
      have hyg := does_gd hgt hok (freeP_place t) (by omega) (fun x hx => (hb x hx).1) hk (by omega)
      have hne : doesM ts t (placeM t) kd = nextM ts t := by unfold nextM; rw [hk]
      rw [hne] at haf hyz hyg
      have hex := rextent_c (G := G) _ (nextM ts t) (Nat.le_refl _) (by omega) 3400 (by omega)
      have hlo := ext_long (mn := 3000) (md := 200) (most := 3400) (nextM ts t) (by omega)
      have hlz := long_size (mn := 3000) (md := 200) (t := nextM ts t) (d := 1) (c := 0) (by omega)
      obtain ⟨lf, hlf⟩ : ∃ lf, fl - st = lf + 1 := ⟨fl - st - 1, by omega⟩
      have hr2 : ranM ts (lf + 1) st t = if (longT 3000 200 1 0 (nextM ts t)).1 = true then (endZ, 12) else ranM ts lf (st + 1) (nextM ts t) := by simp only [ranM, hre0]
      rw [hlf, hr2] at hst
      rw [hlf, hr2] at hrn
      generalize (longT 3000 200 1 0 (nextM ts t)).1 = lb at hlo hlz hst hrn
      refine Y33 ?_;refine Y42 ?_;refine s_val (v_callD (fun _ => haf)) ?_;refine Y16 ?_;refine Y28 ?_;refine Y6 ?_;refine s_val (v_callD (fun _ => hex)) ?_;refine Y65 ?_;refine Y10 ?_;refine Y44 ?_;refine Y59 ?_;refine Tri.cond rfl (fun h5 => ?_) (fun h5 => ?_)
      ·skip
       have hlb : lb = true := by rw [← hlo]; simpa using h5
       subst hlb
       rw [if_pos rfl, rfin, if_neg (by decide)] at hst
       refine Y50 ?_;refine Y53 ?_;exact Tri.ret ⟨.inr rfl, ret2 rfl resV_cell ((by rw [hst]; exact ToPu.imp (by unfold endZ noneM; repeat constructor))) resV_tmp ((by rw [hst]; exact VImp.refl _))⟩
      ·skip
       have hlb : lb = false := by rw [← hlo]; simpa using h5
       subst hlb
       rw [if_neg (by decide)] at hrn
       have hz9 := hlz rfl
       have hnext : st + 1 ≤ fl ∧ ranM ts fl 0 t0 = ranM ts (fl - (st + 1)) (st + 1) (nextM ts t) ∧ gdT 0 (nextM ts t) ∧ tsize (nextM ts t) ≤ 3000 := ⟨by omega, by rw [hrn, show fl - (st + 1) = lf by omega], hyg, by omega⟩
       refine Tri.skip ?_;refine Tri.exit ?_
       refine ⟨⟨(st + 1, nextM ts t), hnext⟩, by show fl - (st + 1) < fl - st; omega, le_of ?_ ?_⟩
       ·exact zE
       ·exact zH
theorem alike_eq (a b : EndM) : alikeM a b = ((a.kind == b.kind) && (a.ref == b.ref) && (a.num == b.num) && sameT (seenM a.term) (seenM b.term)) := by
 unfold alikeM
 cases (a.kind == b.kind) <;> cases (a.num == b.num) <;> cases (a.ref == b.ref) <;> rfl
theorem ralike_c (e1 e2 : EndM) (hz1 : tsize e1.term < 2^28) (hz2 : tsize e2.term < 2^28) : FCall Tryz.prog G 55 [.pu (rendP e1), .pu (rendP e2)] (bv (alikeM e1 e2)) := by
 rw [alike_eq]
 obtain ⟨k1, s1, t1, f1, n1⟩ := e1
 obtain ⟨k2, s2, t2, f2, n2⟩ := e2
 dsimp only at hz1 hz2 ⊢
 have q1 := seen_size t1
 have q2 := seen_size t2
 refine FCall.of_tri tbl 33 Tryz.func55 rfl rfl rfl fun w0 M ρ0 D0 => ?_
 refine Tri.fact (i := 0) rfl (fun D w x h => rend_wf h) (fun hw1 => ?_);refine Tri.fact (i := 1) rfl (fun D w x h => rend_wf h) (fun hw2 => ?_)
 dsimp only at hw1 hw2
 refine yR ?_;refine s_box SS 2 ?_;refine s_box SS 3 ?_;refine yB ?_;refine e_seqN [2, 3] ?_;refine Y13 ?_;refine Y40 ?_;refine Y25 ?_;refine s_gg zG (v_bin SS (h := bin_eqS (hw1.trans hw2.symm))) ?_;refine yN ?_;refine Y25 ?_;refine Y17 ?_;refine Y11 ?_;refine s_gg zG (v_callD (fun _ => rseen_c _ t1 (Nat.le_refl _) (by omega))) ?_;refine Y5 ?_;refine s_gg zG (v_callD (fun _ => rseen_c _ t2 (Nat.le_refl _) (by omega))) ?_;refine s_gg zG (v_callD (fun _ => rsameT_c _ (seenM t1) (seenM t2) (Nat.le_refl _) (by omega) (by omega))) ?_;refine yN ?_;refine yA ?_;refine Y38 ?_;exact Tri.ret ⟨.inr rfl, ret1 rfl resV_tmp (bv_imp rfl)⟩
theorem lend_c (e : EndM) : FCall Tryz.prog G 130 [.pu (rendP e)] (.pu (endP e)) := by
 obtain ⟨k1, s1, t1, f1, n1⟩ := e
 refine FCall.of_tri tbl 14 Tryz.func130 rfl rfl rfl fun w0 M ρ0 D0 => ?_
 refine yR ?_;refine s_box SS 1 ?_;refine s_alloc SS 2 ?_;refine e_seqN [1, 2] ?_;refine Y13 ?_;refine Y49 ?_;refine Y49 ?_;refine Y71 ?_;exact Tri.ret ⟨.inr rfl, ret1 rfl resV_cell (ToPu.imp (by repeat constructor))⟩
end Go.Proofs.YtkcgkignhpepkaaGreatDoor

/- Runs with memory of their own; ends that are compared, and spoilt. -/
namespace Go.Proofs.YtkcgkignhpepkaaGreatDoor
open Go Hs
variable {G : List (Nat × TypeId × Pu)}
theorem PR_empty {D : Nat → Nat → Prop} {w : World} {lo lo' : Nat} {E : TypeId} {x : List Value} (h : PR Tryz.prog D w (.sl lo E []) x) : PR Tryz.prog D w (.sl lo' E []) x := by
 cases h with
 | sl0 => exact .sl0
 | sl hn => exact (hn rfl).elim
theorem none_low {D : Nat → Nat → Prop} {w : World} {m : Nat} {x : List Value} (h : PR Tryz.prog D w (tmc 0 noneM) x) : PR Tryz.prog D w (tmc m noneM) x := by
 unfold noneM at h ⊢
 cases h with
 | agg hc h =>
  refine .agg hc ?_
  cases h with | cons p0 s0 t0 h =>
  cases h with | cons p1 s1 t1 h =>
  cases h with | cons p2 s2 t2 h =>
  cases h with | cons p3 s3 t3 h =>
  cases h with | cons p4 s4 t4 h =>
  cases h
  exact .cons p0 s0 t0 (.cons p1 s1 t1 (.cons p2 s2 t2 (.cons (PR_empty p3) s3 t3 (.cons (PR_empty p4) s4 t4 .nil))))
def endPm (m : Nat) (e : EndM) : Pu := .agg 65 [.leaf (.int .i64 e.kind), .leaf (.int .i64 e.steps), tmc m e.term, refP e.ref, .leaf (.int .i64 e.num)]
instance (m : Nat) (e : EndM) : TyV Tryz.prog 65 (.pu (endPm m e)) := inferInstanceAs (TyV Tryz.prog 65 (.pu (.agg _ _)))
theorem endm_low {P : Program} {m n : Nat} (h : n ≤ m) (e : EndM) : VImp P (.pu (endPm m e)) (.pu (endPm n e)) := (Low.agg (.cons .refl (.cons .refl (.cons (tmc_low h _) (.cons .refl (.cons .refl .nil)))))).imp
theorem endm_none {m : Nat} (e : EndM) (h : e.term = noneM) : VImp Tryz.prog (.pu (endP e)) (.pu (endPm m e)) := fun C w x hx => by
 cases hx with
 | one h1 h2 =>
  refine .one (.pu ?_) h2
  have h3 := h1.pu_inv
  generalize x.cells.toList = z at h3
  unfold endP at h3
  unfold endPm
  rw [h] at h3 ⊢
  cases h3 with
  | agg hc h =>
   refine .agg hc ?_
   cases h with | cons p0 s0 t0 h =>
   cases h with | cons p1 s1 t1 h =>
   cases h with | cons p2 s2 t2 h =>
   exact .cons p0 s0 t0 (.cons p1 s1 t1 (.cons (none_low p2) s2 t2 h))
abbrev ranVm (m : Nat) (x : EndM × Int) : PV := .tup [.pu (endPm m x.1), iv .i64 x.2]
theorem ranVm_low {P : Program} {m n : Nat} (h : n ≤ m) (x : EndM × Int) : VImp P (ranVm m x) (ranVm n x) := VImps.tup (.cons (endm_low h _) (.cons (VImp.refl _) .nil)) (notTup rfl)
theorem ran_term {ts : List KT} : ∀ (left steps : Nat) (t : Tm), (ranM ts left steps t).1.kind ≠ 0 → (ranM ts left steps t).1.kind ≠ 9 → (ranM ts left steps t).1.term = noneM := by
 have hE : ∀ {steps : Nat} {t : Tm} {e : EndM}, ranE ts steps t = some e → e.kind ≠ 0 → e.kind ≠ 9 → e.term = noneM := fun {steps t e} h h0 h9 => by
  unfold ranE at h
  split at h
  ·simp at h; subst h; exact (h0 rfl).elim
  ·split at h
   ·simp at h; subst h; exact (h9 rfl).elim
   ·split at h
    ·simp at h; subst h; rfl
    ·cases h
 intro left
 induction left with
 | zero =>
  intro steps t
  simp only [ranM]
  split
  ·rename_i e he; exact hE he
  ·exact fun _ _ => rfl
 | succ left ih =>
  intro steps t
  simp only [ranM]
  split
  ·rename_i e he; exact hE he
  ·split
   ·exact fun _ _ => rfl
   ·exact ih _ _
set_option maxHeartbeats 1000000 in
theorem run_cN (a b : Pu) (ts : List KT) (t : Tm) (fuel : Int) (hts : ∀ x ∈ ts, tsize x.2 < 2^40) (hN : tsize t < 2^40) : FCallN Tryz.prog G 35 [.pu (wdP a b ts), .pu (tmc 0 t), iv .i64 fuel] (fun m => ranVm m (runM ts t fuel)) := by
 refine FCallN.of_tri tbl 58 Tryz.func35 rfl rfl (fun _ => rfl) fun w0 M ρ0 D0 hM => ?_
 refine yR ?_;refine s_box SS 3 ?_;refine s_box SS 4 ?_;refine s_alloc SS 6 ?_;refine yB ?_;refine e_seqN [3, 4, 6] ?_;refine Y33 ?_;refine s_val (v_callD (fun _ => stepCheck_c a b ts t hts hN)) ?_;refine Y47 ?_;refine Tri.cond rfl (fun h0 => ?_) (fun h0 => ?_)
 ·skip
  have h0' : ¬ stepCheckM ts t = 0 := by simpa using h0
  have hfin : runM ts t fuel = (endZ, stepCheckM ts t) := by simp only [runM, if_neg h0']
  refine Y50 ?_;refine yM ?_;refine yS ?_;refine Y2 ?_;exact Tri.ret ⟨.inr rfl, ret2 rfl resV_cell ((by rw [hfin]; exact ToPu.imp (by unfold endZ noneM; repeat constructor))) resV_tmp ((by rw [hfin]; exact VImp.refl _))⟩
 ·skip
  have h0' : stepCheckM ts t = 0 := by simpa using h0
  obtain ⟨k1, k2, k3, k4⟩ := stepCheck_ok h0'
  obtain ⟨k5, k6⟩ := check_sh k4
  refine Tri.skip ?_;refine Y44 ?_;refine Y59 ?_;refine Tri.cond rfl (fun h1 => ?_) (fun h1 => ?_)
  ·skip
   have h1' : fuel < 0 ∨ 2000 < fuel := by simpa using h1
   have hfin : runM ts t fuel = (endZ, 3) := by simp only [runM, if_pos h0', if_pos h1']
   refine Y50 ?_;refine Y53 ?_;exact Tri.ret ⟨.inr rfl, ret2 rfl resV_cell ((by rw [hfin]; exact ToPu.imp (by unfold endZ noneM; repeat constructor))) resV_tmp ((by rw [hfin]; exact VImp.refl _))⟩
  ·skip
   have h1' : ¬ (fuel < 0 ∨ 2000 < fuel) := by simp at h1; omega
   obtain ⟨fl, hfl⟩ : ∃ fl : Nat, fuel = fl := ⟨fuel.toNat, by omega⟩
   subst hfl
   have hran := ran_c (G := G) a b ts k3 (by omega) (fun x hx => (check_sh (k2 x hx)).1) (fun x hx => (check_sh (k2 x hx)).2) t k5 (by omega) fl (by omega)
   have hinv := ran_inv (ts := ts) (fun x hx => (check_sh (k2 x hx)).1) fl 0 t k5 (by omega)
   have hterm := ran_term (ts := ts) fl 0 t
   have hrun : runM ts t fl = if (ranM ts fl 0 t).2 = 0 then (if (ranM ts fl 0 t).1.kind ≠ 0 ∧ (ranM ts fl 0 t).1.kind ≠ 9 then ((ranM ts fl 0 t).1, 0) else if checkM (ranM ts fl 0 t).1.term 60 8 = 0 then ((ranM ts fl 0 t).1, 0) else (endZ, 11)) else (endZ, (ranM ts fl 0 t).2) := by simp only [runM, if_pos h0', if_neg h1', Int.toNat_natCast]
   generalize ranM ts fl 0 t = res at hran hinv hrun hterm
   obtain ⟨⟨ek, es, et, er, en⟩, err⟩ := res
   simp only at hinv hrun hterm
   refine Tri.skip ?_;refine Y33 ?_;refine yM ?_;refine s_val (v_callD (fun _ => hran)) ?_;refine Y35 ?_;refine s_alloc SS 9 ?_;refine yS ?_;refine yA ?_;refine e_seqN [9] ?_;refine tQ ?_;refine Tri.block ?_;refine Y56 ?_;refine Tri.cond rfl (fun h2 => ?_) (fun h2 => ?_)
   ·skip
    have h2' : ¬ err = 0 := by simpa using h2
    rw [if_neg h2'] at hrun
    refine Y50 ?_;refine yM ?_;refine yS ?_;refine Y2 ?_;exact Tri.ret ⟨.inr rfl, ret2 rfl resV_cell ((by rw [hrun]; exact ToPu.imp (by unfold endZ noneM; repeat constructor))) resV_tmp ((by rw [hrun]; exact VImp.refl _))⟩
   ·skip
    have h2' : err = 0 := by simpa using h2
    rw [if_pos h2'] at hrun
    refine Y41 ?_;refine Y51 ?_;refine Tri.cond rfl (fun h3 => ?_) (fun h3 => ?_)
    ·skip
     have h3' : ek ≠ 0 ∧ ek ≠ 9 := by simpa using h3
     rw [if_pos h3'] at hrun
     have ht := hterm h3'.1 h3'.2
     refine Y6 ?_;refine Y53 ?_;exact Tri.ret ⟨.inr rfl, ret2 rfl resV_cell ((by rw [hrun]; exact endm_none ⟨ek, es, et, er, en⟩ ht)) resV_tmp ((by rw [hrun]; exact VImp.refl _))⟩
    ·skip
     have h3' : ¬ (ek ≠ 0 ∧ ek ≠ 9) := by simpa using h3
     rw [if_neg h3'] at hrun
     refine Y13 ?_;refine s_val (v_callD (fun _ => right_c et (by omega))) ?_;refine yQ ?_;refine Y2 ?_;refine Tri.cond rfl (fun h4 => ?_) (fun h4 => ?_)
     ·skip
      have h4' : ¬ checkM et 60 8 = 0 := by simpa using h4
      rw [if_neg h4'] at hrun
      refine Y50 ?_;refine Y53 ?_;exact Tri.ret ⟨.inr rfl, ret2 rfl resV_cell ((by rw [hrun]; exact ToPu.imp (by unfold endZ noneM; repeat constructor))) resV_tmp ((by rw [hrun]; exact VImp.refl _))⟩
     ·skip
      have h4' : checkM et 60 8 = 0 := by simpa using h4
      rw [if_pos h4'] at hrun
      refine Tri.skip ?_;refine Y13 ?_;refine s_val (v_callN (fun m n h => (tmc_low h _).imp) (fun _ => own_c et (by omega))) ?_;refine Y58 ?_;refine Y6 ?_;refine Y53 ?_;exact Tri.ret ⟨.inr rfl, ret2 rfl resV_cell ((by rw [hrun]; exact VImp.refl _)) resV_tmp ((by rw [hrun]; exact VImp.refl _))⟩
theorem Wore1.grew' {E : TypeId} {k m hi : Nat} {Z : List Value → Prop} {w w' : World} (g : Grew w w') : Wore1 E k Z m hi w w' := fun b c _ _ hb => ⟨c, (g.block b (heap_lt hb)).trans hb, rfl, fun _ _ => .inl rfl⟩
theorem Wore.grew' {m hi : Nat} {w w' : World} (g : Grew w w') : Wore m hi w w' := ⟨.grew' g, .grew' g, .grew' g⟩
def alikeB (e1 e2 : EndM) (r1 r2 : Int) : Bool := (r1 == r2) && (e1.kind == e2.kind) && (e1.steps == e2.steps) && (e1.ref == e2.ref) && (e1.num == e2.num) && sameT e1.term e2.term
theorem endm_wf {m : Nat} {D : Nat → Nat → Prop} {w : World} {e : EndM} {x : List Value} (h : PR Tryz.prog D w (endPm m e) x) : e.ref.length = 32 := by
 obtain ⟨_, h⟩ := PR_agg h
 obtain ⟨_, _, _, h⟩ := PRs_cons h
 obtain ⟨_, _, _, h⟩ := PRs_cons h
 obtain ⟨_, _, _, h⟩ := PRs_cons h
 obtain ⟨⟨_, h⟩, _⟩ := PRs_cons h
 exact ref_len h
theorem compsE : comps Tryz.prog 65 = some [(1, 3), (1, 3), (36, 32), (32, 28), (1, 3)] := by kernel_rfl
theorem endm_cells {m : Nat} {D : Nat → Nat → Prop} {w : World} {e : EndM} {x : List Value} (h : PR Tryz.prog D w (endPm m e) x) : ∃ x0 lt x1, x = x0 ++ lt ++ x1 ∧ x0.length = 2 ∧ lt.length = 36 ∧ PR Tryz.prog D w (tmc m e.term) lt := by
 unfold endPm at h
 cases h with
 | agg hc h =>
  rw [compsE] at hc
  simp only [Option.some.injEq] at hc
  subst hc
  cases h with | @cons _ _ _ _ _ x0 _ _ s0 _ h =>
  cases h with | @cons _ _ _ _ _ x1 _ _ s1 _ h =>
  cases h with | @cons _ _ _ _ _ x2 y2 p2 s2 _ h =>
  exact ⟨x0 ++ x1, x2, y2, by simp, by simp [s0, s1], s2, p2⟩
end Go.Proofs.YtkcgkignhpepkaaGreatDoor

/- Ends that are compared, and spoilt: by the cells. -/
namespace Go.Proofs.YtkcgkignhpepkaaGreatDoor
open Go Hs
theorem compsR : comps Tryz.prog 87 = some [(1, 3), (1, 3), (36, 32), (32, 28), (1, 3)] := by kernel_rfl
theorem Wore1.mark {E : TypeId} {k m hi : Nat} {Z : List Value → Prop} {w w1 w2 : World} (h : Wore1 E k Z m hi w w1) (q : MarkK w.heap.size w1 w2) : Wore1 E k Z m hi w w2 := fun b c h1 h2 hb => by
 obtain ⟨c', e1, e2, e3⟩ := h b c h1 h2 hb
 exact ⟨c', (q.low b (heap_lt hb)).trans e1, e2, e3⟩
theorem Wore.mark {m hi : Nat} {w w1 w2 : World} (h : Wore m hi w w1) (q : MarkK w.heap.size w1 w2) : Wore m hi w w2 := ⟨h.pt.mark q, h.tm.mark q, h.cs.mark q⟩
set_option maxHeartbeats 1000000 in
theorem alike_raw (m N hi : Nat) (e1 e2 : EndM) (r1 r2 : Int) {C : Cfg} {w : World} {L0 L1 : List Value} (hz1 : tsize e1.term < 2^40) (hz2 : tsize e2.term < 2^40) (F : Frag Tryz.prog gA C w [] []) (p0 : PR Tryz.prog C.D w (endPm m e1) L0) (p1 : PR Tryz.prog C.D w (rendP e2) L1)
  {x0 lt x1 : List Value} (hx : L0 = x0 ++ lt ++ x1) (h0 : x0.length = 2) (hlt : lt.length = 36) (hsoft : softT m hi w N lt) (hh : hi ≤ w.heap.size) :
  Calls Tryz.prog 58 #[.agg L0.toArray, .agg L1.toArray, .int .i64 r1, .int .i64 r2] w fun e w' => e = .returned (.bool (alikeB e1 e2 r1 r2)) ∧ Keep m hi w w' ∧ Wore m hi w w' := by
 have hw1 := endm_wf p0
 have hw2 := rend_wf p1
 have hl0 : L0.length = Tryz.prog.cellsOf 65 := VR.length_ty (C := ⟨C.D, fun _ => none, fun _ => none⟩) (pl := none) tbl (VR.pu p0) TyV.ok compsE
 have hl1 : L1.length = Tryz.prog.cellsOf 87 := VR.length_ty (C := ⟨C.D, fun _ => none, fun _ => none⟩) (pl := none) tbl (VR.pu p1) TyV.ok compsR
 obtain ⟨k1, s1, t1, f1, n1⟩ := e1
 obtain ⟨k2, s2, t2, f2, n2⟩ := e2
 dsimp only at hw1 hw2 hz1 hz2
 obtain ⟨wa, hwa⟩ : ∃ wa, wa = w.alloc (.cells L0.toArray 65) := ⟨_, rfl⟩
 obtain ⟨wb, hwb⟩ : ∃ wb, wb = wa.alloc (.cells L1.toArray 87) := ⟨_, rfl⟩
 have ga : Grew w wa := by rw [hwa]; exact Grew.alloc w _
 have gb : Grew wa wb := by rw [hwb]; exact Grew.alloc wa _
 have hsa : wa.heap.size = w.heap.size + 1 := by rw [hwa]; exact alloc_size w _
 have hsb : wb.heap.size = wa.heap.size + 1 := by rw [hwb]; exact alloc_size wa _
 have hb4 : wb.heap[w.heap.size]? = some (.cells L0.toArray 65 (0, 0)) := by
  rw [gb.block _ (by omega), hwa]; exact alloc_heap_new w _
 have hb5 : wb.heap[wa.heap.size]? = some (.cells L1.toArray 87 (0, 0)) := by rw [hwb]; exact alloc_heap_new wa _
 have g1 := ga.trans gb
 have hcell : ∀ b o, C.D b o → wb.cell? ⟨b, o, none⟩ = w.cell? ⟨b, o, none⟩ := fun b o hD => g1.cell (F.dLt b o hD)
 have p0' := PR.mono (fun b o hD => ⟨hD, hcell b o hD⟩) g1.ty p0
 have p1' := PR.mono (fun b o hD => ⟨hD, hcell b o hD⟩) g1.ty p1
 obtain ⟨C1, hC1⟩ : ∃ C1 : Cfg, C1 = ⟨C.D, fun l => if l = 4 then some (w.heap.size, .var 65) else if l = 5 then some (wa.heap.size, .var 87) else none, fun _ => none⟩ := ⟨_, rfl⟩
 have d1 : C1.D = C.D := by rw [hC1]
 have ρ4 : C1.ρ 4 = some (w.heap.size, .var 65) := by rw [hC1]; rfl
 have ρ5 : C1.ρ 5 = some (wa.heap.size, .var 87) := by rw [hC1]; rfl
 have ow1 : ∀ b, C1.own b = none := fun b => by rw [hC1]
 have key : ∀ l ob, get [(4, Ob.var 65 (.pu (endPm m ⟨k1, s1, t1, f1, n1⟩))), (5, Ob.var 87 (.pu (rendP ⟨k2, s2, t2, f2, n2⟩)))] l = some ob →
   (l = 4 ∧ ob = .var 65 (.pu (endPm m ⟨k1, s1, t1, f1, n1⟩))) ∨ (l = 5 ∧ ob = .var 87 (.pu (rendP ⟨k2, s2, t2, f2, n2⟩))) := fun l ob hl => by
  have := get_mem hl
  simp only [List.mem_cons, List.not_mem_nil, or_false, Prod.mk.injEq] at this
  exact this
 have F1 : Frag Tryz.prog gA C1 wb [(4, .var 65 (.pu (endPm m ⟨k1, s1, t1, f1, n1⟩))), (5, .var 87 (.pu (rendP ⟨k2, s2, t2, f2, n2⟩)))] [] := by
  refine ⟨fun l ob hl => ?_, fun l l' b R R' ob ob' hl hl' q1 q2 => ?_, fun l ob b R o hl hρ hD => ?_, fun b o hD => Nat.lt_of_lt_of_le (F.dLt b o (by rw [← d1]; exact hD)) g1.size, fun b q k hb => (by rw [ow1] at hb; cases hb), F.gl.mono ⟨fun b o hD => ⟨by rw [d1]; exact hD, hcell b o hD⟩, fun l hl => (by cases hl), fun b q k hb hq => False.elim hq, g1.ty⟩⟩
  ·rw [List.append_nil] at hl
   rcases key l ob hl with ⟨rfl, rfl⟩ | ⟨rfl, rfl⟩
   ·exact ⟨_, ρ4, _, _, hb4, .pu (by rw [d1]; simpa using p0'), TyV.ok, by simpa using hl0⟩
   ·exact ⟨_, ρ5, _, _, hb5, .pu (by rw [d1]; simpa using p1'), TyV.ok, by simpa using hl1⟩
  ·rw [List.append_nil] at hl hl'
   rcases key l ob hl with ⟨rfl, rfl⟩ | ⟨rfl, rfl⟩ <;> rcases key l' ob' hl' with ⟨rfl, rfl⟩ | ⟨rfl, rfl⟩
   ·rfl
   ·rw [ρ4] at q1; rw [ρ5] at q2; simp at q1 q2; omega
   ·rw [ρ5] at q1; rw [ρ4] at q2; simp at q1 q2; omega
   ·rfl
  ·rw [List.append_nil] at hl
   have hlb := F.dLt b o (by rw [← d1]; exact hD)
   rcases key l ob hl with ⟨rfl, rfl⟩ | ⟨rfl, rfl⟩
   ·rw [ρ4] at hρ; simp at hρ; omega
   ·rw [ρ5] at hρ; simp at hρ; omega
 refine calls_rawM (args := #[.agg L0.toArray, .agg L1.toArray, .int .i64 r1, .int .i64 r2]) 55 Tryz.func58 rfl rfl fun a hs hd ha => ?_
 refine wpIn_seq (RTri.use (n := 55) (fun e env' w' => e = .normal ∧ subE [(2, .int .i64 r1), (3, .int .i64 r2), (4, .pointer (some ⟨w.heap.size, 0, none⟩)), (5, .pointer (some ⟨(w.alloc (.cells L0.toArray 65)).heap.size, 0, none⟩))] env' ∧ w' = (w.alloc (.cells L0.toArray 65)).alloc (.cells L1.toArray 87)) ?_ (Kn.of (l := [(0, .agg L0.toArray), (1, .agg L1.toArray), (2, .int .i64 r1), (3, .int .i64 r2)]) hs (fun x hx => ?_)) ?_)
 ·refine RTri.region ?_
  refine q_box rfl (by decide) ?_;refine q_box rfl (by decide) ?_;refine q_assign rfl (by decide) ?_;refine RL.nil ?_;exact ⟨rfl, ⟨rfl, rfl, rfl, rfl, trivial⟩, rfl⟩
 ·simp only [List.mem_cons, List.not_mem_nil, or_false] at hx
  rcases hx with rfl | rfl | rfl | rfl
  ·exact ha 0 _ rfl
  ·exact ha 1 _ rfl
  ·exact ha 2 _ rfl
  ·exact ha 3 _ rfl
 rintro e a1 w1 env1 hk1 ⟨he, hsub, hw1'⟩
 rw [← hwa, ← hwb] at hw1'
 rw [← hwa] at hsub
 subst he hw1'
 obtain ⟨v2, v3, v4, v5, _⟩ := hsub
 have hfree : ∀ l ob, get [(4, Ob.var 65 (.pu (endPm m ⟨k1, s1, t1, f1, n1⟩))), (5, Ob.var 87 (.pu (rendP ⟨k2, s2, t2, f2, n2⟩)))] l = some ob → freeOb ob = true := fun l ob hl => by
  rcases key l ob hl with ⟨rfl, rfl⟩ | ⟨rfl, rfl⟩ <;> rfl
 obtain ⟨C0, hsat⟩ := sat_of_read F1 hfree 55 [4, 5] hk1.size (hk1.defers.trans hd) (env := [(2, iv .i64 r1), (3, iv .i64 r2), (4, .ptr 4 [] 65), (5, .ptr 5 [] 87)]) (fun i u hu => by
  have := get_mem hu
  simp only [List.mem_cons, List.not_mem_nil, or_false, Prod.mk.injEq] at this
  rcases this with ⟨rfl, rfl⟩ | ⟨rfl, rfl⟩ | ⟨rfl, rfl⟩ | ⟨rfl, rfl⟩
  ·exact ⟨_, hk1.env _ _ v2, .pu (.leaf rfl), rfl⟩
  ·exact ⟨_, hk1.env _ _ v3, .pu (.leaf rfl), rfl⟩
  ·exact ⟨_, hk1.env _ _ v4, .ptr ρ4 rfl, rfl⟩
  ·exact ⟨_, hk1.env _ _ v5, .ptr ρ5 rfl, rfl⟩)
 refine TriR.run hsat ?_;refine TriR.seq ?_;refine Y6 ?_;refine s_val (v_callD (fun _ => lend_c ⟨k2, s2, t2, f2, n2⟩)) ?_;refine s_alloc SS 9 ?_;refine yS ?_;refine e_seqN [9] ?_
 refine ⟨rfl, ?_⟩
 refine TriR.seq ?_;refine Y52 ?_;refine Y25 ?_;refine Y17 ?_;refine Y25 ?_;refine Y17 ?_;refine Y25 ?_;refine s_gg zG (v_bin SS (h := bin_eqS (hw1.trans hw2.symm))) ?_;refine yN ?_;refine Y25 ?_;refine Y17 ?_;refine Y25 ?_;refine s_gg zG (v_callD (fun _ => sameT_c _ t1 t2 (Nat.le_refl _) hz1 hz2)) ?_;refine yN ?_;refine Y10 ?_
 refine ⟨rfl, ?_⟩
 intro C2 a2 w2 hs2
 have gw2 : Grew w1 w2 := hs2.grewF (fun b => Mset_nil)
 have h4 : w2.heap[w.heap.size]? = some (.cells L0.toArray 65 (0, 0)) := (gw2.block _ (by omega)).trans hb4
 have s4 := hs2.ptr_val (i := 4) rfl ((hs2.kin.rho 4 (by simp)).trans ρ4) rfl
 have s10 := hs2.leaf_val (i := 10) rfl
 have gall := g1.trans gw2
 obtain ⟨bb, hbb⟩ : ∃ bb, bb = alikeB ⟨k1, s1, t1, f1, n1⟩ ⟨k2, s2, t2, f2, n2⟩ r1 r2 := ⟨_, rfl⟩
 have s10' : a2.tmps[10]? = some (.bool bb) := by rw [hbb]; exact s10
 refine wpIn_seq (RTri.use (n := 55) (fun e env' w' => e = .normal ∧ subE [(10, .bool bb)] env' ∧ Keep m hi w2 w' ∧ Wore m hi w2 w') ?_ (Kn.of (l := [(4, .pointer (some ⟨w.heap.size, 0, none⟩)), (10, .bool bb)]) hs2.size (fun x hx => ?_)) ?_)
 ·refine RTri.region ?_
  refine q_field tbl (off := 2) rfl (by kernel_rfl) (by decide) ?_;refine q_loadA tbl (l := lt) (fun j v hj => ?_) (hlt.trans (by kernel_rfl)) rfl (by kernel_rfl) (by decide) ?_
  ·rw [cell_of_cells h4, hx]
   simp only [List.getElem?_toArray]
   rw [List.append_assoc, List.getElem?_append_right (by omega), List.getElem?_append_left (by have := (List.getElem?_eq_some_iff.1 hj).1; omega), h0, show 0 + 2 + j - 2 = j by omega];exact hj
  refine RL.call rfl rfl rfl (by decide) #[.agg lt.toArray] (fun _ ha => x_call (by kernel_rfl) rfl rfl rfl ha) ?_
  refine (spoil_c N m hi w2 lt (softT_mono (Wore.grew' gall) N lt hsoft) (Nat.le_trans hh gall.size)).mono fun e w3 ⟨⟨v, he⟩, K3, W3⟩ => ⟨v, he, ?_⟩
  refine RL.nil ?_;exact ⟨rfl, ⟨rfl, trivial⟩, K3, W3⟩
 ·simp only [List.mem_cons, List.not_mem_nil, or_false] at hx
  rcases hx with rfl | rfl
  ·exact s4
  ·exact s10'
 rintro e a3 w3 env3 hk3 ⟨he, hsub3, hK, hW⟩
 subst he;refine wpIn_seq (RTri.use (n := 55) (env := [(10, .bool bb)]) (fun e env' w' => e = .normal ∧ subE [(8, .bool bb)] env' ∧ w' = w3) ?_ (hk3.less hsub3.get) ?_)
 ·refine RTri.region ?_
  refine q_move rfl (by decide) ?_;refine q_assign rfl (by decide) ?_;refine RL.nil ?_;exact ⟨rfl, ⟨rfl, trivial⟩, rfl⟩
 rintro e a4 w4 env4 hk4 ⟨he, hsub4, hw4⟩
 subst he hw4
 have hres : Tryz.f58.results = #[.tmp 8] := rfl
 have s8 := hk4.env 8 _ hsub4.1
 refine wpIn_ret ⟨.inr rfl, ⟨by rw [hk4.defers]; exact hs2.defers.1, fun d hd' => ?_⟩, .bool bb, fun w5 => by simp [results, hres, s8], fun w5 hM => ?_⟩
 ·rw [hk4.defers] at hd'
  obtain ⟨D, q1, q2, q3, _⟩ := hs2.defers.2 d hd'
  rcases q2 with q2 | q2
  ·exact ⟨D, q1, Nat.le_trans g1.size q2, hK.other D _ q3 (fun _ _ _ e => by cases e)⟩
  ·exact (Mset_nil q2).elim
 ·exact ⟨by rw [hbb], ((Keep.of_grew gall).trans hK).mark hM, ((Wore.grew' gall).trans hW).mark hM⟩
end Go.Proofs.YtkcgkignhpepkaaGreatDoor

