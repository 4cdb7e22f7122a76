/- Part 2 of the proof: lemmas on walks and the walks of the functions, in their order. -/
import Derived.Test.YtkcgkignhpepkaaGreatDoorZ1
import Derived.RangeFuncFrom
import Derived.Laws.MakeOwn
import Derived.Laws.CopyRow
import Derived.WideKeyRuns
import Derived.KernelRfl
set_option linter.unusedSimpArgs false
set_option linter.unusedVariables false
set_option linter.unusedSectionVars false
set_option linter.constructorNameAsVariable false
/- Regions: in text order, and in any order that the edges leave open. -/
namespace Hs
open Go Go.RowKit
section
variable {P : Program}
theorem Inv.init {X : Ctx} {st0 : St} {items : List Item} {C : Cfg} {a : Act} {w : World} (h : SatC P X C st0 a w) : Inv P X st0 items (fun _ => false) C a w := by
 have : ∀ (l : List Item) k (st : St), run st l k (fun _ => false) = st := fun l => by
  induction l with
  | nil => intros; rfl
  | cons y l ih => intro k st; simp only [run, Bool.false_eq_true, if_false]; exact ih _ _
 exact ⟨by rw [this]; exact h, fun _ _ _ _ _ hs => by cases hs⟩
theorem Inv.fun_eq {X : Ctx} {st0 : St} {items : List Item} {S T : Nat → Bool} {C : Cfg} {a : Act} {w : World} (h : Inv P X st0 items S C a w) (e : S = T) : Inv P X st0 items T C a w := e ▸ h
theorem bS5 (i : Nat) : add (O2 i) i = O2 (i + 1) := by
 funext j
 rw [Bool.eq_iff_iff]
 simp only [add, O2, Bool.or_eq_true, beq_iff_eq, decide_eq_true_eq]
 omega
theorem aM5 {X : Ctx} {ops : Array Oper} {st0 : St} {items : List Item} (h : RegionOk P X ops st0 items) {Q : Exit → Act → World → Prop} (hQ : ∀ C a w, SatC P X C (run st0 items 0 (O2 items.length)) a w → Q .normal a w) :
  ∀ (m i : Nat), i + m = items.length → ∀ C a w, Inv P X st0 items (O2 i) C a w → wpOpsIn (rf X.ro) 0 P ops Q (List.range' i m) a w
 | 0, i, hi, C, a, w, inv => by
  obtain rfl : i = items.length := by omega
  exact hQ C a w inv.sat
 | m + 1, i, hi, C, a, w, inv => by
  rw [List.range'_succ, wpOpsIn_cons]
  have hlt : i < items.length := by omega
  refine aL8 h (List.getElem?_eq_getElem hlt) (by simp [O2]) (fun j y _ hji _ => rfl) inv fun C' a' w' inv' => ?_
  exact aM5 h hQ m (i + 1) (by omega) C' a' w' (inv'.fun_eq (bS5 i))
theorem aZ5 {X : Ctx} {ops : Array Oper} {st0 : St} {items : List Item} (h : RegionOk P X ops st0 items) {Q : Exit → Act → World → Prop} (hQ : ∀ C a w, SatC P X C (run st0 items 0 (O2 items.length)) a w → Q .normal a w)
  {id : Nat} {C : Cfg} {a : Act} {w : World} (hs : SatC P X C st0 a w) : (Code.region id ops false).wpIn (rf X.ro) 0 P Q a w := by
 refine wpIn_region ?_
 have hn : ops.size = items.length := by rw [← Array.length_toList, h.opers, List.length_map]
 rw [List.range_eq_range', hn];refine aM5 h hQ items.length 0 (by omega) C a w ((Inv.init hs).fun_eq ?_)
 funext j
 simp [O2]
def M9 (o : Oper) : List Nat := (o.after.toList.filter (Region.binds .any)).map (·.on)
def bf9 : List Oper → List (List Nat) → List (List Nat)
 | [], acc => acc
 | o :: r, acc => bf9 r (acc ++ [(M9 o).foldl (fun s x => if s.contains x then s else x :: ((acc.getD x []).filter (fun y => !s.contains y) ++ s)) []])
def bd7 (ops : List Oper) (S : Nat → Bool) : Prop := ∀ (j : Nat) o, ops[j]? = some o → S j = true → ∀ x ∈ M9 o, S x = true
theorem at7 {S : Nat → Bool} {acc : List (List Nat)} (hacc : ∀ x, S x = true → ∀ y ∈ acc.getD x [], S y = true) : ∀ (bs s : List Nat), (∀ x ∈ bs, S x = true) → (∀ y ∈ s, S y = true) →
  ∀ y ∈ bs.foldl (fun s x => if s.contains x then s else x :: ((acc.getD x []).filter (fun y => !s.contains y) ++ s)) s, S y = true
 | [], s, _, hs => hs
 | x :: bs, s, hb, hs => by
  simp only [List.foldl_cons]
  refine at7 hacc bs _ (fun y hy => hb y (List.mem_cons_of_mem _ hy)) ?_
  split
  ·exact hs
  ·intro y hy
   rcases List.mem_cons.1 hy with rfl | hy
   ·exact hb _ (by simp)
   ·rcases List.mem_append.1 hy with hy | hy
    ·exact hacc x (hb x (by simp)) y (List.mem_filter.1 hy).1
    ·exact hs y hy
theorem at6 {all : List Oper} {S : Nat → Bool} (hc : bd7 all S) : ∀ (r : List Oper) (acc : List (List Nat)), (∀ j, r[j]? = all[acc.length + j]?) →
  (∀ (j : Nat) o l, all[j]? = some o → acc[j]? = some l → (∀ x ∈ M9 o, S x = true) → ∀ y ∈ l, S y = true) →
  ∀ (j : Nat) o l, all[j]? = some o → (bf9 r acc)[j]? = some l → (∀ x ∈ M9 o, S x = true) → ∀ y ∈ l, S y = true
 | [], acc, _, h => h
 | o :: r, acc, hr, h => by
  simp only [bf9]
  refine at6 hc r _ (fun j => by
   have := hr (j + 1)
   simp only [List.getElem?_cons_succ] at this
   rw [this]
   congr 1
   simp
   omega) fun j o' l ho' hl hb => ?_
  have ho : all[acc.length]? = some o := by simpa using (hr 0).symm
  have hacc : ∀ x, S x = true → ∀ y ∈ acc.getD x [], S y = true := fun x hx y hy => by
   rw [List.getD_eq_getElem?_getD] at hy
   cases hq : acc[x]? with
   | none => rw [hq] at hy; simp at hy
   | some l' =>
    rw [hq] at hy
    simp at hy
    have hlt : x < acc.length := (List.getElem?_eq_some_iff.1 hq).1
    cases ha : all[x]? with
    | none =>
     exfalso
     have : acc.length < all.length := (List.getElem?_eq_some_iff.1 ho).1
     rw [List.getElem?_eq_none_iff] at ha
     omega
    | some ox => exact h x ox l' ha hq (hc x ox ha hx) y hy
  rw [List.getElem?_append] at hl
  split at hl
  ·exact h j o' l ho' hl hb
  ·rename_i hge
   have hj : j = acc.length := by
    rcases Nat.lt_or_ge (j - acc.length) 1 with hlt | hge'
    ·omega
    ·rw [List.getElem?_eq_none (by simpa using hge')] at hl
     cases hl
   subst hj
   rw [Nat.sub_self, List.getElem?_cons_zero] at hl
   obtain rfl := Option.some.inj hl
   rw [ho] at ho'
   cases ho'
   exact at7 hacc (M9 o) [] hb (fun y hy => by cases hy)
def M8 (items : List Item) : Bool :=
 let t := bf9 (items.map (·.o)) []
 (List.range items.length).all fun j => match items[j]?, t[j]? with
  | some y, some anc => (M9 y.o).all (fun x => decide (x < j)) && (List.range j).all fun i => match items[i]? with
    | some x => !G8 x y || anc.contains i
    | none => true
  | _, _ => false
structure OrderOk (items : List Item) : Prop where
 lt : ∀ (j : Nat) y, items[j]? = some y → ∀ x ∈ M9 y.o, x < j
 anc : ∀ (S : Nat → Bool), bd7 (items.map (·.o)) S → ∀ (i j : Nat) x y, items[i]? = some x → items[j]? = some y → i < j → G8 x y = true → (∀ b ∈ M9 y.o, S b = true) → S i = true
theorem aH2 {items : List Item} (h : M8 items = true) : OrderOk items := by
 unfold M8 at h
 simp only at h
 rw [List.all_eq_true] at h
 refine ⟨fun j y hj x hx => ?_, fun S hc i j x y hi hj hij hcf hb => ?_⟩
 all_goals
  have hlt : j < items.length := (List.getElem?_eq_some_iff.1 hj).1
  have := h j (List.mem_range.2 hlt)
  rw [hj] at this
  split at this
  case h_2 => simp at this
  rename_i y' anc e1 e2
  simp at e1
  subst e1
  simp only [Bool.and_eq_true] at this
 ·exact of_decide_eq_true (List.all_eq_true.1 this.1 x hx)
 ·have h2 := List.all_eq_true.1 this.2 i (List.mem_range.2 hij)
  rw [hi] at h2
  simp only [hcf, Bool.not_true, Bool.false_or] at h2
  have hm : i ∈ anc := by simpa using h2
  exact at6 hc _ [] (by simp) (by simp) j y.o anc (by rw [List.getElem?_map, hj]; rfl) e2 hb i hm
def af5 (listed : Array Bool) : Nat → Bool := fun j => listed.getD j false
theorem aM4 {listed : Array Bool} {i : Nat} (h : i < listed.size) : af5 (listed.setIfInBounds i true) = add (af5 listed) i := by
 funext j
 simp only [af5, add]
 by_cases hji : j = i
 ·subst hji
  simp [h]
 ·rw [getD_set_ne false (fun e => hji e.symm)]
  simp [hji]
def left (listed : Array Bool) : Nat := ((List.range listed.size).filter fun j => !listed.getD j false).length
theorem ap3 {l : List Nat} (hn : l.Nodup) {i : Nat} (hi : i ∈ l) {p q : Nat → Bool} (hp : p i = true) (hq : q i = false) (h : ∀ j, j ≠ i → q j = p j) : (l.filter p).length = (l.filter q).length + 1 := by
 induction l with
 | nil => simp at hi
 | cons x l ih =>
  rw [List.nodup_cons] at hn
  by_cases hx : x = i
  ·subst hx
   have : l.filter p = l.filter q := List.filter_congr fun j hj => (h j fun e => hn.1 (e ▸ hj)).symm
   simp [hp, hq, this]
  ·have hi' : i ∈ l := (List.mem_cons.1 hi).resolve_left fun e => hx e.symm
   have := ih hn.2 hi'
   simp only [List.filter_cons, h x hx]
   split <;> simp [this]
theorem bB8 {listed : Array Bool} {i : Nat} (hi : i < listed.size) (h : listed.getD i false = false) : left listed = left (listed.setIfInBounds i true) + 1 := by
 unfold left
 rw [Array.size_setIfInBounds]
 exact ap3 List.nodup_range (List.mem_range.2 hi) (by simpa using h) (by simp [hi]) fun j hj => by rw [getD_set_ne false (fun e => hj e.symm)]
theorem bq7 {listed : Array Bool} (h : left listed = 0) (j : Nat) (hj : j < listed.size) : listed.getD j false = true := by
 unfold left at h
 rw [List.length_eq_zero_iff, List.filter_eq_nil_iff] at h
 simpa using h j (List.mem_range.2 hj)
theorem bI3 {X : Ctx} {ops : Array Oper} {st0 : St} {items : List Item} (h : RegionOk P X ops st0 items) (ho : OrderOk items) {Q : Exit → Act → World → Prop} (hQ : ∀ C a w, SatC P X C (run st0 items 0 (O2 items.length)) a w → Q .normal a w) :
  ∀ (fuel : Nat) (listed : Array Bool), listed.size = items.length → left listed = fuel → bd7 (items.map (·.o)) (af5 listed) → ∀ C a w, Inv P X st0 items (af5 listed) C a w → wpAnyIn (rf X.ro) 0 P .any ops Q fuel listed a w := by
 have hn : ops.size = items.length := by rw [← Array.length_toList, h.opers, List.length_map]
 have full : ∀ (listed : Array Bool), listed.size = items.length → (∀ j, j < listed.size → listed.getD j false = true) → ∀ C a w, Inv P X st0 items (af5 listed) C a w → Region.ready .any ops listed = [] ∧ Q .normal a w := fun listed hs hall C a w inv => by
  refine ⟨List.eq_nil_iff_forall_not_mem.2 fun j hj => ?_, hQ C a w ?_⟩
  ·obtain ⟨h0, o, hjo, _⟩ := mem_ready.1 hj
   have hlt : j < listed.size := by rw [hs, ← hn]; exact (Array.getElem?_eq_some_iff.1 hjo).1
   have := hall j hlt
   rw [Array.getD_eq_getD_getElem?, Array.getElem?_eq_getElem hlt] at h0 this
   simp at h0 this
   rw [h0] at this
   cases this
  ·have : run st0 items 0 (af5 listed) = run st0 items 0 (O2 items.length) := ac6 _ _ _ fun j hj => by
    rw [Nat.zero_add]
    simp only [af5, O2, hj, decide_true]
    exact hall j (by omega)
   rw [← this];exact inv.sat
 intro fuel
 induction fuel with
 | zero =>
  intro listed hs hl hc C a w inv
  exact full listed hs (bq7 hl) C a w inv
 | succ fuel ih =>
  intro listed hs hl hc C a w inv
  refine ⟨fun hr => ?_, fun i hi => ?_⟩
  ·-- nothing is ready: all is listed
   refine (full listed hs (fun j hj => ?_) C a w inv).2
   induction j using Nat.strongRecOn with
   | ind j ihj =>
    cases hg : listed.getD j false with
    | true => rfl
    | false =>
     exfalso
     have hj' : j < items.length := by omega
     have hmem : j ∈ Region.ready .any ops listed := by
      refine mem_ready.2 ⟨?_, items[j].o, h.op (List.getElem?_eq_getElem hj'), fun e he hb => ?_⟩
      ·rw [Array.getD_eq_getD_getElem?, Array.getElem?_eq_getElem hj] at hg ⊢
       simpa using hg
      ·have hlt := ho.lt j items[j] (List.getElem?_eq_getElem hj') e.on (List.mem_map.2 ⟨e, List.mem_filter.2 ⟨by simpa using he, hb⟩, rfl⟩)
       exact ihj e.on hlt (by omega)
     rw [hr] at hmem
     cases hmem
  ·obtain ⟨h0, o, hio, hall⟩ := mem_ready.1 hi
   have hlt : i < items.length := by rw [← hn]; exact (Array.getElem?_eq_some_iff.1 hio).1
   have hlt' : i < listed.size := by omega
   have hx := List.getElem?_eq_getElem hlt
   have hoi : o = items[i].o := by have := h.op hx; rw [hio] at this; exact Option.some.inj this
   have hb : ∀ b ∈ M9 items[i].o, af5 listed b = true := fun b hb => by
    obtain ⟨e, he, rfl⟩ := List.mem_map.1 hb
    obtain ⟨he1, he2⟩ := List.mem_filter.1 he
    exact hall e (by rw [hoi]; simpa using he1) he2
   have hSi : af5 listed i = false := by
    simp only [af5]
    rw [Array.getD_eq_getD_getElem?, Array.getElem?_eq_getElem hlt'] at h0 ⊢
    simpa using h0
   refine aL8 h hx hSi (fun j y hj hji hc' => ?_) inv fun C' a' w' inv' => ?_
   ·rcases Nat.lt_or_ge j i with hji' | hge
    ·have := ho.anc _ hc j i y items[i] hj hx hji' (ay2 hc') hb
     rw [this]
     simpa using hji'
    ·have hij : i < j := by omega
     have : ¬ j < i := by omega
     simp only [this, decide_false]
     cases hsj : af5 listed j with
     | false => rfl
     | true =>
      exfalso
      have := ho.anc _ hc i j items[i] y hx hj hij hc' (hc j y.o (by rw [List.getElem?_map, hj]; rfl) hsj)
      rw [hSi] at this
      cases this
   ·refine ih _ (by rw [Array.size_setIfInBounds]; exact hs) ?_ ?_ C' a' w' (inv'.fun_eq (aM4 hlt').symm)
    ·have := bB8 hlt' (show listed.getD i false = false from hSi)
     omega
    ·rw [aM4 hlt']
     intro j o' hj hsj x hx'
     by_cases hji : j = i
     ·subst hji
      rw [List.getElem?_map, hx] at hj
      simp at hj
      subst hj
      simp [add, hb x hx']
     ·have hs' : af5 listed j = true := by simpa [add, hji] using hsj
      simp [add, hc j o' hj hs' x hx']
theorem SatC.drew {X : Ctx} {C : Cfg} {st : St} {a : Act} {w : World} (h : SatC P X C st a w) : SatC P X C st a { w with drawn := w.drawn + 1 } :=
 h.grew (Grew.drew w) (CGrew.refl C w _ fun b q k hb hge => absurd (h.own b q k hb).2.1 (Nat.not_lt.2 hge))
theorem aZ6 {X : Ctx} {ops : Array Oper} {st0 : St} {items : List Item} (hm : P.follows .mixedOrders = true) (h : RegionOk P X ops st0 items) (ho : M8 items = true) {Q : Exit → Act → World → Prop} (hQ : ∀ C a w, SatC P X C (run st0 items 0 (O2 items.length)) a w → Q .normal a w)
  {id : Nat} {C : Cfg} {a : Act} {w : World} (hs : SatC P X C st0 a w) : (Code.region id ops true).wpIn (rf X.ro) 0 P Q a w := by
 have hn : ops.size = items.length := by rw [← Array.length_toList, h.opers, List.length_map]
 have hz : af5 (Array.replicate ops.size false) = fun _ => false := by
  funext j
  simp only [af5, Array.getD_eq_getD_getElem?, Array.getElem?_replicate]
  split <;> simp
 refine wpIn_region_any hm (bI3 h (aH2 ho) hQ _ _ (by simp [hn]) ?_ ?_ C a _ ((Inv.init hs.drew).fun_eq hz.symm))
 ·unfold left
  rw [List.filter_eq_self.2]
  ·simp
  ·intro j hj
   simp at hj
   simp [hj]
 ·rw [hz]
  intro j o _ hs
  cases hs
end
section
variable {P : Program}
def Tri (P : Program) (X : Ctx) (c : Code) (st : St) (Q : Exit → St → Prop) : Prop :=
 ∀ C a w, SatC P X C st a w → c.wpIn (rf X.ro) 0 P (fun e a' w' => ∃ st' C', Q e st' ∧ SatC P X C' st' a' w') a w
variable {X : Ctx} {st : St} {Q : Exit → St → Prop}
theorem Tri.mono {c : Code} {Q' : Exit → St → Prop} (h : Tri P X c st Q) (hq : ∀ e s, Q e s → Q' e s) : Tri P X c st Q' :=
 fun C a w hs => wpIn_mono (h C a w hs) fun _ _ _ ⟨s, C', q, hs'⟩ => ⟨s, C', hq _ _ q, hs'⟩
theorem Tri.less {c : Code} {t : St} (e : t.Le st) (h : Tri P X c t Q) : Tri P X c st Q := fun C a w hs => h C a w (hs.less e)
def ah0 (K : St → Prop) (Q : Exit → St → Prop) : Exit → St → Prop
 | .normal, s => K s
 | e, s => Q e s
theorem Tri.seq {x y : Code} (h : Tri P X x st (ah0 (fun s => Tri P X y s Q) Q)) : Tri P X (.seq x y) st Q := fun C a w hs => by
 refine wpIn_seq (wpIn_mono (h C a w hs) fun e a' w' ⟨s, C', q, hs'⟩ => ?_)
 cases e with
 | normal => exact q C' a' w' hs'
 | _ => exact ⟨s, C', q, hs'⟩
theorem Tri.skip (h : Q .normal st) : Tri P X .skip st Q := fun C _ _ hs => wpIn_skip ⟨st, C, h, hs⟩
theorem Tri.label {l : Nat} (h : Q .normal st) : Tri P X (.label l) st Q := fun C _ _ hs => wpIn_label ⟨st, C, h, hs⟩
theorem Tri.exit {id : Nat} (h : Q (.exit id) st) : Tri P X (.exit id) st Q := fun C _ _ hs => wpIn_exit ⟨st, C, h, hs⟩
theorem Tri.ret (h : Q .ret st) : Tri P X .ret st Q := fun C _ _ hs => wpIn_ret ⟨st, C, h, hs⟩
theorem Tri.cond {c : Operand} {x y : Code} {b : Bool} (hc : b9 X.G st.env c = some (bv b)) (hx : b = true → Tri P X x st Q) (hy : b = false → Tri P X y st Q) : Tri P X (.cond c x y) st Q := fun C a w hs => by
 have := (hs.eval hc).leaf_inv.1
 exact wpIn_cond_split this (fun hb => hx hb C a w hs) fun hb => hy hb C a w hs
theorem Tri.condT {c : Operand} {x y : Code} (hc : b9 X.G st.env c = some (bv true)) (hx : Tri P X x st Q) : Tri P X (.cond c x y) st Q := Tri.cond hc (fun _ => hx) (fun h => by cases h)
theorem Tri.condF {c : Operand} {x y : Code} (hc : b9 X.G st.env c = some (bv false)) (hy : Tri P X y st Q) : Tri P X (.cond c x y) st Q := Tri.cond hc (fun h => by cases h) (fun _ => hy)
def aR3 (id : Nat) (Q : Exit → St → Prop) : Exit → St → Prop
 | .exit id', s => if id' = id then Q .normal s else Q (.exit id') s
 | e, s => Q e s
theorem Tri.block {id : Nat} {c : Code} (h : Tri P X c st (aR3 id Q)) : Tri P X (.block id c) st Q := fun C a w hs => by
 refine wpIn_block (wpIn_mono (h C a w hs) fun e a' w' ⟨s, C', q, hs'⟩ => ?_)
 cases e with
 | exit id' =>
  simp only [aR3, Exit.inBlock] at q ⊢
  split <;> rename_i e
  ·rw [if_pos e] at q; exact ⟨s, C', q, hs'⟩
  ·rw [if_neg e] at q; exact ⟨s, C', q, hs'⟩
 | _ => exact ⟨s, C', q, hs'⟩
theorem bU1 {p : Nat → Prop} (h : ∃ n, p n) : ∃ n, p n ∧ ∀ m, p m → n ≤ m := by
 obtain ⟨n, hn⟩ := h
 induction n using Nat.strongRecOn with
 | ind n ih =>
  by_cases hq : ∃ m, m < n ∧ p m
  ·obtain ⟨m, hm, hp⟩ := hq
   exact ih m hm hp
  ·exact ⟨n, hn, fun m hm => Nat.le_of_not_lt fun hlt => hq ⟨m, hlt, hm⟩⟩
theorem Tri.loop {σ : Type} (I : σ → St) (μ : σ → Nat) {c : Code} (s0 : σ) (h0 : (I s0).Le st) (h : ∀ s, Tri P X c (I s) (ah0 (fun st' => ∃ s', μ s' < μ s ∧ (I s').Le st') Q)) : Tri P X (.loop c) st Q := fun C a w hs => by
 have hl : ∀ a w, (∃ n s C, μ s = n ∧ SatC P X C (I s) a w) → ∃ n, (∃ s C, μ s = n ∧ SatC P X C (I s) a w) ∧ ∀ m, (∃ s C, μ s = m ∧ SatC P X C (I s) a w) → n ≤ m := fun a w hh => bU1 hh
 refine wpIn_loop (fun a w => ∃ s C, SatC P X C (I s) a w) (fun a w => open Classical in if hh : ∃ n s C, μ s = n ∧ SatC P X C (I s) a w then (hl a w hh).choose else 0) ⟨s0, C, hs.less h0⟩ ?_
 rintro a w ⟨s1, C1, hs1⟩
 have hh : ∃ n s C, μ s = n ∧ SatC P X C (I s) a w := ⟨_, s1, C1, rfl, hs1⟩
 obtain ⟨⟨s, C, hm, hs⟩, _⟩ := (hl a w hh).choose_spec
 refine wpIn_mono (h s C a w hs) fun e a' w' ⟨st', C', q, hs'⟩ => ?_
 cases e with
 | normal =>
  obtain ⟨s', hlt, hle⟩ := q
  have hI := hs'.less hle
  refine ⟨⟨s', C', hI⟩, ?_⟩
  have hh' : ∃ n s C, μ s = n ∧ SatC P X C (I s) a' w' := ⟨_, s', C', rfl, hI⟩
  have h1 := (hl a' w' hh').choose_spec.2 (μ s') ⟨s', C', rfl, hI⟩
  simp only [dif_pos hh, dif_pos hh']
  omega
 | _ => exact ⟨st', C', q, hs'⟩
inductive Plan (P : Program) (X : Ctx) (ops : Array Oper) : St → List Item → Prop
 | nil {st : St} : Plan P X ops st []
 | cons {st : St} {x : Item} {r : List Item} (h : Does P X ops st x) (t : Plan P X ops (st.app x) r) : Plan P X ops st (x :: r)
def aD7 (st : St) (items : List Item) : St := items.foldl St.app st
theorem bf8 (S : Nat → Bool) : ∀ (items : List Item) (k : Nat) (st : St), (∀ j, j < items.length → S (k + j) = true) → run st items k S = aD7 st items
 | [], _, _, _ => rfl
 | x :: r, k, st, h => by
  simp only [run, aD7, List.foldl_cons]
  have := h 0 (by simp)
  simp only [Nat.add_zero] at this
  rw [if_pos this]
  exact bf8 S r (k + 1) _ fun j hj => by
   have := h (j + 1) (by simpa using hj)
   simpa [Nat.add_assoc, Nat.add_comm 1 j] using this
theorem bf7 (items : List Item) (st : St) (i : Nat) (h : i ≤ items.length) : run st items 0 (O2 i) = aD7 st (items.take i) := by
 have hl : items = items.take i ++ items.drop i := (List.take_append_drop i items).symm
 have hlen : (items.take i).length = i := by simp; omega
 conv => lhs; rw [hl]
 rw [af6, bf8 (O2 i) (items.take i) 0 st (fun j hj => by simp [O2]; omega)]
 have h2 : ∀ (l : List Item) k (st : St), i ≤ k → run st l k (O2 i) = st := fun l => by
  induction l with
  | nil => intros; rfl
  | cons y l ih =>
   intro k st hk
   simp only [run]
   rw [if_neg (by simp [O2]; omega)];exact ih _ _ (by omega)
 exact h2 _ _ _ (by omega)
theorem Plan.does {ops : Array Oper} : ∀ {items : List Item} {st : St}, Plan P X ops st items → ∀ i x, items[i]? = some x → Does P X ops (aD7 st (items.take i)) x
 | _, _, .nil, i, x, h => by simp at h
 | _, _, .cons h t, 0, x, hx => by simp at hx; subst hx; exact h
 | _, _, .cons h t, i + 1, x, hx => by
  have := t.does i x (by simpa using hx)
  simpa [aD7] using this
structure WalkR (P : Program) (X : Ctx) (ops : Array Oper) (draw : Bool) (st0 : St) (K : St → Prop) (done : List Item) (st : St) (rest : List Oper) : Prop where
 ex : ∃ items, items.map (·.o) = rest ∧ Plan P X ops st items ∧ A5 [] (done ++ items) = true ∧ (draw = true → M8 (done ++ items) = true) ∧
  (∀ x ∈ done ++ items, ∀ l ∈ x.f.news, Fresh st0 l ∧ get st0.heap l = none ∧ l ∉ X.L) ∧ K (aD7 st items)
theorem WalkR.nil {ops : Array Oper} {draw : Bool} {st0 : St} {K : St → Prop} {done : List Item} {st : St} (h1 : A5 [] done = true) (h2 : draw = true → M8 done = true)
  (h3 : ∀ x ∈ done, ∀ l ∈ x.f.news, Fresh st0 l ∧ get st0.heap l = none ∧ l ∉ X.L) (h4 : K st) : WalkR P X ops draw st0 K done st [] :=
 ⟨[], rfl, .nil, by simpa using h1, by simpa using h2, by simpa using h3, h4⟩
theorem WalkR.cons {ops : Array Oper} {draw : Bool} {st0 : St} {K : St → Prop} {done : List Item} {st : St} {o : Oper} {rest : List Oper} {e : Eff} {f : FP} (h : Does P X ops st ⟨o, e, f⟩)
  (t : WalkR P X ops draw st0 K (done ++ [⟨o, e, f⟩]) (st.upd o.dst e) rest) : WalkR P X ops draw st0 K done st (o :: rest) := by
 obtain ⟨items, h1, h2, h3, h4, h5, h6⟩ := t
 refine ⟨⟨o, e, f⟩ :: items, by simp [h1], .cons h h2, ?_, ?_, ?_, h6⟩
 ·simpa using h3
 ·simpa using h4
 ·simpa using h5
theorem Tri.region (hm : P.follows .mixedOrders = true) {id : Nat} {ops : Array Oper} {draw : Bool} (h : WalkR P X ops draw st (Q .normal) [] st ops.toList) : Tri P X (.region id ops draw) st Q := fun C a w hs => by
 obtain ⟨items, h1, h2, h3, h4, h5, h6⟩ := h
 simp only [List.nil_append] at h3 h4 h5
 have hok : RegionOk P X ops st items := ⟨h1.symm, fun i x hi => by
  rw [bf7 items st i (Nat.le_of_lt (List.getElem?_eq_some_iff.1 hi).1)]
  exact h2.does i x hi, h3, h5⟩
 have hQ : ∀ C a w, SatC P X C (run st items 0 (O2 items.length)) a w → (fun e a' w' => ∃ st' C', Q e st' ∧ SatC P X C' st' a' w') Exit.normal a w := fun C a w hs => by
  rw [bf7 items st items.length (Nat.le_refl _), List.take_length] at hs
  exact ⟨_, C, h6, hs⟩
 cases draw with
 | false => exact aZ5 hok hQ hs
 | true => exact aZ6 hm hok (h4 rfl) hQ hs
end
section
variable {P : Program} {lo : Nat} {X : Ctx} {ops : Array Oper} {st : St} {o : Oper}
def c9 (os : List Operand) : List Nat := os.filterMap fun | .tmp t => some t | _ => none
def I5 (ops : Array Oper) (o : Oper) : List Nat := match o.guard with
 | some (j, _) => ((ops[j]?).bind (·.dst)).toList
 | none => []
def rds (ops : Array Oper) (o : Oper) : List Nat := I5 ops o ++ c9 o.op.operands.toList
theorem d5 {G : List (Nat × TypeId × Pu)} {env env' : List (Nat × PV)} {x : Operand} (h : ∀ t, x = .tmp t → get env' t = get env t) : b9 G env' x = b9 G env x := by
 cases x with
 | tmp t => exact h t rfl
 | _ => rfl
theorem f0 {os : List Operand} {t : Nat} (h : Operand.tmp t ∈ os) : t ∈ c9 os := by
 unfold c9
 exact List.mem_filterMap.2 ⟨_, h, rfl⟩
theorem u6 {G : List (Nat × TypeId × Pu)} {env env' : List (Nat × PV)} : ∀ {os : List Operand}, (∀ t ∈ c9 os, get env' t = get env t) → evalL G env' os = evalL G env os
 | [], _ => rfl
 | o :: os, h => by
  simp only [evalL]
  rw [d5 (env' := env') (env := env) (x := o) fun t e => h t (f0 (by rw [← e]; simp)), u6 (os := os) fun t ht => h t (by
   unfold c9 at *
   rw [List.filterMap_cons]
   split
   ·exact ht
   ·exact List.mem_cons_of_mem _ ht)]
def gd (b : Bool) (v : PV) : PV := bif b then v else .tup []
theorem bO2 (v : PV) : gd true v = v := rfl
theorem bE4 (v : PV) : gd false v = .tup [] := rfl
structure Guard (ops : Array Oper) (st : St) (o : Oper) (g : Bool) : Prop where
 ex : match o.guard with
  | none => g = true
  | some (j, want) => ∃ d b b', (ops[j]?).bind (·.dst) = some d ∧ get st.env d = some (gd b (bv b')) ∧ g = (b && (b' == want))
theorem Guard.none (h : o.guard = none) : Guard ops st o true := ⟨by rw [h]⟩
theorem Guard.bool {j d : Nat} {want b : Bool} (h : o.guard = some (j, want)) (hd : (ops[j]?).bind (·.dst) = some d) (hb : get st.env d = some (bv b)) : Guard ops st o (b == want) :=
 ⟨by rw [h]; exact ⟨d, true, b, hd, hb, by simp⟩⟩
theorem Guard.gd {j d : Nat} {want b b' : Bool} (h : o.guard = some (j, want)) (hd : (ops[j]?).bind (·.dst) = some d) (hb : get st.env d = some (Hs.gd b (bv b'))) : Guard ops st o (b && (b' == want)) :=
 ⟨by rw [h]; exact ⟨d, b, b', hd, hb, rfl⟩⟩
theorem Guard.congr {g : Bool} {st' : St} (h : Guard ops st o g) (e : ∀ t ∈ I5 ops o, get st'.env t = get st.env t) : Guard ops st' o g := by
 refine ⟨?_⟩
 have := h.ex
 split
 ·rename_i hg
  rw [hg] at this
  exact this
 ·rename_i j want hg
  rw [hg] at this
  obtain ⟨d, b, b', h1, h2, h3⟩ := this
  exact ⟨d, b, b', h1, by rw [e d (by unfold I5; rw [hg]; simp only; rw [h1]; simp)]; exact h2, h3⟩
theorem bm6 {C : Cfg} {w : World} {i : Nat} {x : Value} (h : VT P C w i (.tup []) x) : x = .tuple #[] := by
 cases h with
 | one h hs => cases h
 | tup h =>
  rename_i xs
  have : xs.toList = [] := by
   generalize hz : xs.toList = z at h
   cases h
   rfl
  congr 1
  apply Array.ext'
  simpa using this
theorem Guard.wanted {g : Bool} (h : Guard ops st o g) {C : Cfg} {a : Act} {w : World} (hs : SatC P X C st a w) : Region.wanted o (yielded ops a.tmps) = g := by
 have := h.ex
 unfold Region.wanted
 split at this
 ·rename_i hg
  rw [hg, this]
 ·rename_i j want hg
  rw [hg]
  obtain ⟨d, b, b', h1, h2, h3⟩ := this
  obtain ⟨x, hx, hv⟩ := hs.env d _ h2
  simp only [yielded, h1, Option.bind_some, hx]
  cases b with
  | true =>
   rw [bO2] at hv
   have hx' : x = .bool b' := by
    have := hv.vw
    simp only [bv, strip] at this
    exact this.leaf_inv.1
   subst hx';rw [h3]
   cases b' <;> cases want <;> rfl
  | false =>
   rw [bE4] at hv
   have := bm6 hv
   subst this;rw [h3]
   simp
theorem ExecG.of {C : Cfg} {a : Act} {w : World} {e : Eff} (hw : Region.wanted o (yielded ops a.tmps) = true) (h : Exec P X C st o a w e) : ExecG P X ops C st o a w e := by
 intro K Q hK
 rw [if_pos hw]
 exact fun hnd => N5 hnd (h K Q hK)
theorem Exec.noSrc {C : Cfg} {a : Act} {w : World} {v : PV} {env : List (Nat × PV)} {heap : List (Nat × Ob)} {src : Option Place} (h : Exec P X C st o a w { v, env, heap, src }) : Exec P X C st o a w { v, env, heap } :=
 fun K Q hK => h K Q fun C' y w' h1 h2 _ => hK C' y w' h1 ⟨h2.ρ, h2.block⟩ fun L d hL => by simp at hL
theorem aB8 {C : Cfg} {a : Act} {w : World} {dst : Option Nat} (hs : SatC P X C st a w) (hd : C5 X.n dst = true) : SatC P X C (st.upd dst { v := .tup [] }) (a.put dst undef) w := by
 cases dst with
 | none => exact hs
 | some d => exact hs.put (t6 hd d rfl) (.tup .nil)
theorem ExecG.guarded {C : Cfg} {a : Act} {w : World} {g : Bool} {u : PV} (hs : SatC P X C st a w) (hg : Guard ops st o g) (hd : C5 X.n o.dst = true) (h : g = true → Exec P X C st o a w { v := u }) : ExecG P X ops C st o a w { v := gd g u } := by
 intro K Q hK
 have hw := hg.wanted hs
 cases g with
 | true =>
  rw [if_pos hw]
  exact fun hnd => N5 hnd (h rfl K Q hK)
 | false =>
  rw [if_neg (by rw [hw]; simp)]
  exact hK C undef w (aB8 hs hd) (Tr.refl _ _ _ _) fun L d hL => by simp at hL
theorem ae0 {f : FP} {st' : St} (h : Agree f st st') {l : List Nat} (hl : ∀ t ∈ l, t ∈ f.reads) : ∀ t ∈ l, get st'.env t = get st.env t := fun t ht => h.env t (hl t ht)
theorem aI1 {b : Bool} {v : PV} {l : Nat} (h : l ∈ (gd b v).labs) : l ∈ v.labs := by
 cases b with
 | true => exact h
 | false => simp [gd, PV.labs, PV.labsL] at h
theorem bt0 (S : Seat P) {raw : List PV} {u : PV} (hg : o.guard = none) (hraw : evalL X.G st.env o.op.operands.toList = some raw) (hp : y7 P S o.op (raw.map strip) = some u) (hd : C5 X.n o.dst = true) :
  Does P X ops st ⟨o, { v := u, src := aB2 o.op o.dst }, { reads := rds ops o, labs := u.labs }⟩ where
 labs l h := by simpa using h
 live L h := by
  unfold aB2 at h
  split at h
  ·split at h
   ·simp at h
   ·simp at h; subst h; trivial
  ·simp at h
 exec st' ha _ C a w hs _ := by
  have hr : evalL X.G st'.env o.op.operands.toList = some raw := by
   rw [u6 (ae0 ha fun t ht => by simp [rds, ht])];exact hraw
  exact .of ((Guard.none hg).wanted hs) (aE0 S hs hr hp hd)
theorem aT9 {s d : Nat} {E : TypeId} {ps : List Pu} (hg : o.guard = none) (hop : o.op = .assign (.tmp s)) (hd : o.dst = some d) (hdn : d < X.n) (hsd : s ≠ d) (hs : get st.env s = some (.ow lo E ps)) :
  Does P X ops st ⟨o, { v := .ow lo E ps, env := [(s, .pu (.sl lo E ps))] }, { reads := [s] }⟩ where
 labs l h := by simp [PV.labs] at h
 live L h := by simp at h
 exec st' ha _ C a w hs' _ := .of ((Guard.none hg).wanted hs') (aT6 hs' hop hd hdn hsd ((ha.env s (by simp)).trans hs))
theorem bt1 (S : Seat P) {x : Operand} {T T' : TypeId} {l : Nat} {path : List Nat} {ob : Ob} {u : PV} (hg : o.guard = none) (hop : o.op = .load T x) (hx : b9 X.G st.env x = some (.ptr l path T'))
  (hok : okT P T T' = true) (hl : get st.heap l = some ob) (hget : ob.get path = some u) (hd : C5 X.n o.dst = true) :
  Does P X ops st ⟨o, { v := strip u, src := if (f7 P T).isNone then some (.obj l path) else none }, { reads := c9 [x], hreads := [l], labs := (strip u).labs }⟩ where
 labs l h := by simpa using h
 live L h := by
  split at h
  ·simp at h; subst h; exact ⟨ob, hl⟩
  ·simp at h
 exec st' ha _ C a w hs _ := by
  have hx' : b9 X.G st'.env x = some (.ptr l path T') := by
   rw [d5 (env := st.env) fun t e => ha.env t (by rw [e]; simp [c9])];exact hx
  exact .of ((Guard.none hg).wanted hs) (aE1 S hs hop hx' hok ((ha.heap l (by simp)).trans hl) hget hd)
theorem bc4 (S : Seat P) {x y : Operand} {T T' : TypeId} {l : Nat} {path : List Nat} {ob ob' : Ob} {u u0 : PV} (hg : o.guard = none) (hop : o.op = .store T x y) (hx : b9 X.G st.env x = some (.ptr l path T'))
  (hy : b9 X.G st.env y = some u) (hok : okT P T T' = true) (hl : get st.heap l = some ob) (hR : l ∉ X.R) (hget : ob.get path = some u0) (hd : o.dst = none) (hty : tyV P T (strip u) = true) (h1 : (f7 P T).isSome = true ∨ P.cellsOf T = 1 ∧ P.cellsOf T' = 1)
  (hset : ob.set path (strip u) = some ob') : Does P X ops st ⟨o, { v := .tup [], heap := [(l, ob')] }, { reads := c9 [x, y], hreads := [l], labs := ob'.labs }⟩ where
 labs l h := by simpa [PV.labs, PV.labsL] using h
 live L h := by simp at h
 exec st' ha _ C a w hs _ := by
  have hx' : b9 X.G st'.env x = some (.ptr l path T') := by
   rw [d5 (env := st.env) fun t e => ha.env t (f0 (by rw [e]; simp))];exact hx
  have hy' : b9 X.G st'.env y = some u := by
   rw [d5 (env := st.env) fun t e => ha.env t (f0 (by rw [e]; simp))];exact hy
  exact .of ((Guard.none hg).wanted hs) (bb7 S hs hop hx' hy' hok ((ha.heap l (by simp)).trans hl) hR hget hd hty h1 hset)
theorem aJ2 (S : Seat P) {x : Operand} {s : Nat} {T T' : TypeId} {l : Nat} {path : List Nat} {ob ob' : Ob} {u0 : PV} {E : TypeId} {ps : List Pu} (hg : o.guard = none) (hop : o.op = .store T x (.tmp s)) (hx : b9 X.G st.env x = some (.ptr l path T'))
  (hsv : get st.env s = some (.ow lo E ps)) (hok : okT P T T' = true) (hl : get st.heap l = some ob) (hR : l ∉ X.R) (hget : ob.get path = some u0) (hd : o.dst = none) (hc : (f7 P T').isNone = true) (h1 : P.cellsOf T = 1 ∧ P.cellsOf T' = 1)
  (hset : ob.set path (.ow lo E ps) = some ob') : Does P X ops st ⟨o, { v := .tup [], env := [(s, .pu (.sl lo E ps))], heap := [(l, ob')] }, { reads := c9 [x, .tmp s], hreads := [l], labs := ob'.labs }⟩ where
 labs l h := by simpa [PV.labs, PV.labsL] using h
 live L h := by simp at h
 exec st' ha _ C a w hs _ := by
  have hx' : b9 X.G st'.env x = some (.ptr l path T') := by
   rw [d5 (env := st.env) fun t e => ha.env t (f0 (by rw [e]; simp))];exact hx
  exact .of ((Guard.none hg).wanted hs) (aI9 S hs hop hx' ((ha.env s (f0 (by simp))).trans hsv) hok ((ha.heap l (by simp)).trans hl) hR hget hd hc h1 hset)
theorem bc5 (S : Seat P) {T : TypeId} {d : Nat} {u : PV} (l : Nat) (hg : o.guard = none) (hop : o.op = .alloc T) (hd : o.dst = some d) (hdn : d < X.n) (hz : S.Z T = some u) (hlu : u.labs = []) :
  Does P X ops st ⟨o, { v := .ptr l [] T, heap := [(l, .var T u)] }, { news := [l], labs := [l] }⟩ where
 labs l' h := by simpa [PV.labs, Ob.labs, hlu] using h
 live L h := by simp at h
 exec st' ha hn C a w hs _ := by
  obtain ⟨h1, h2, h3⟩ := hn l (by simp)
  exact .of ((Guard.none hg).wanted hs) (bc0 S hs hop hd hdn h1 h3 h2 hz (by simp [hlu]))
theorem bG0 (S : Seat P) {T : TypeId} {x : Operand} {d : Nat} {u : PV} (l : Nat) (hg : o.guard = none) (hop : o.op = .box T x) (hd : o.dst = some d) (hdn : d < X.n) (hx : b9 X.G st.env x = some u)
  (hty : tyV P T (strip u) = true) (h1 : (f7 P T).isSome = true ∨ P.cellsOf T = 1) (hlu : l ∉ (strip u).labs) :
  Does P X ops st ⟨o, { v := .ptr l [] T, heap := [(l, .var T (strip u))] }, { reads := c9 [x], news := [l], labs := l :: (strip u).labs }⟩ where
 labs l' h := by
  simp [PV.labs, Ob.labs] at h
  simp [h]
 live L h := by simp at h
 exec st' ha hn C a w hs _ := by
  obtain ⟨h1', h2, h3⟩ := hn l (by simp)
  have hx' : b9 X.G st'.env x = some u := by
   rw [d5 (env := st.env) fun t e => ha.env t (f0 (by rw [e]; simp))];exact hx
  exact .of ((Guard.none hg).wanted hs) (bF2 S hs hop hd hdn h1' h3 h2 hx' hty h1 hlu)
theorem aj5 {x y : Operand} {t E : TypeId} {u v : PV} {ps ys : List Pu} {d : Nat} (hg : o.guard = none) (hop : o.op = .call ⟨.builtin .append, #[x, y], #[t, t]⟩) (he : ElemOk P t E)
  (hx : b9 X.G st.env x = some u) (hu : ad5 lo E (strip u) = some ps) (hy : b9 X.G st.env y = some v) (hv : I1 E (strip v) = some ys) (hd : o.dst = some d) (hdn : d < X.n) (hfit : (ps.length + ys.length) * P.bytesOf E ≤ 70368744177664) (hlo : lo ≤ X.w0.heap.size) :
  Does P X ops st ⟨o, { v := .ow lo E (ps ++ ys) }, { reads := c9 [x, y] }⟩ where
 labs l h := by simp [PV.labs] at h
 live L h := by simp at h
 exec st' ha _ C a w hs _ := by
  have hx' : b9 X.G st'.env x = some u := by
   rw [d5 (env := st.env) fun t e => ha.env t (f0 (by rw [e]; simp))];exact hx
  have hy' : b9 X.G st'.env y = some v := by
   rw [d5 (env := st.env) fun t e => ha.env t (f0 (by rw [e]; simp))];exact hy
  exact .of ((Guard.none hg).wanted hs) (aj3 hs hop he hx' hu hy' hv hd hdn hfit hlo)
theorem am7 {b : Nat} {y : Operand} {t E : TypeId} {v : PV} {ps ys : List Pu} {s d : Nat} (hg : o.guard = none) (hop : o.op = .call ⟨.builtin .append, #[.tmp b, y], #[t, t]⟩) (he : ElemOk P t E)
  (hsv : get st.env s = some (.ow lo E ps)) (hy : b9 X.G st.env y = some v) (hv : I1 E (strip v) = some ys) (hd : o.dst = some d) (hdn : d < X.n) (hfit : (ps.length + ys.length) * P.bytesOf E ≤ 70368744177664) (hlo : lo ≤ X.w0.heap.size) :
  Does P X ops st ⟨o, { v := .ow lo E (ps ++ ys), env := [(s, .pu (.sl lo E ps))] }, { reads := b :: s :: c9 [y], bors := [(b, .slot s)] }⟩ where
 labs l h := by simp [PV.labs] at h
 live L h := by simp at h
 exec st' ha _ C a w hs hb := by
  have hy' : b9 X.G st'.env y = some v := by
   rw [d5 (env := st.env) fun t e => ha.env t (by rw [e]; simp [c9])];exact hy
  exact .of ((Guard.none hg).wanted hs) (S8 hs hop he ((ha.env s (by simp)).trans hsv) (hb (b, .slot s) (by simp)) hy' hv hd hdn hfit hlo)
theorem ap5 {b : Nat} {y : Operand} {t E : TypeId} {v : PV} {ps ys : List Pu} {l d : Nat} {path : List Nat} {ob ob' : Ob} (hg : o.guard = none) (hop : o.op = .call ⟨.builtin .append, #[.tmp b, y], #[t, t]⟩) (he : ElemOk P t E)
  (hl : get st.heap l = some ob) (hR : l ∉ X.R) (hget : ob.get path = some (.ow lo E ps)) (hset : ob.set path (.pu (.sl lo E ps)) = some ob') (hy : b9 X.G st.env y = some v) (hv : I1 E (strip v) = some ys) (hd : o.dst = some d) (hdn : d < X.n)
  (hfit : (ps.length + ys.length) * P.bytesOf E ≤ 70368744177664) (hlo : lo ≤ X.w0.heap.size) :
  Does P X ops st ⟨o, { v := .ow lo E (ps ++ ys), heap := [(l, ob')] }, { reads := b :: c9 [y], hreads := [l], bors := [(b, .obj l path)], labs := ob'.labs }⟩ where
 labs l h := by simpa [PV.labs] using h
 live L h := by simp at h
 exec st' ha _ C a w hs hb := by
  have hy' : b9 X.G st'.env y = some v := by
   rw [d5 (env := st.env) fun t e => ha.env t (by rw [e]; simp [c9])];exact hy
  exact .of ((Guard.none hg).wanted hs) (ap4 hs hop he ((ha.heap l (by simp)).trans hl) hR hget hset (hb (b, .obj l path) (by simp)) hy' hv hd hdn hfit hlo)
end
section
variable {P : Program} {G : List (Nat × TypeId × Pu)}
structure Frag (P : Program) (G : List (Nat × TypeId × Pu)) (C : Cfg) (w : World) (HR H : List (Nat × Ob)) : Prop where
 heap : ∀ l ob, get (HR ++ H) l = some ob → ∃ b, C.ρ l = some (b, ob.root) ∧ OR P C w l b ob
 inj : ∀ l l' b R R' ob ob', get (HR ++ H) l = some ob → get (HR ++ H) l' = some ob' → C.ρ l = some (b, R) → C.ρ l' = some (b, R') → l = l'
 dObj : ∀ l ob b R o, get (HR ++ H) l = some ob → C.ρ l = some (b, R) → ¬ C.D b o
 dLt : ∀ b o, C.D b o → b < w.heap.size
 own : ∀ b q k, C.own b = some (q, k) → b < w.heap.size ∧ (∀ o, C.D b o → o < k) ∧ ∀ l ob R, get (HR ++ H) l = some ob → C.ρ l ≠ some (b, R)
 gl : GL P G C w
def I8 (C : Cfg) (H : List (Nat × Ob)) (b : Nat) : Prop := (∃ l ob R, get H l = some ob ∧ C.ρ l = some (b, R)) ∨ ∃ l p k ob, C.own b = some (.obj l p, k) ∧ get H l = some ob
structure After (P : Program) (C : Cfg) (w : World) (H : List (Nat × Ob)) (news : List Nat) (C' : Cfg) (w' : World) (H' : List (Nat × Ob)) (v : PV) (y : Value) : Prop where
 os : w'.os = w.os
 tape : w'.tape = w.tape
 output : w'.output = w.output
 size : w.heap.size ≤ w'.heap.size
 block : ∀ b, b < w.heap.size → ¬ I8 C H b → w'.heap[b]? = w.heap[b]?
 ty : TyKeep w w'
 cell : ∀ b o, C.D b o → w'.cell? ⟨b, o, none⟩ = w.cell? ⟨b, o, none⟩
 rho : ∀ l, l ∉ news → C'.ρ l = C.ρ l
 D : ∀ b o, C.D b o → C'.D b o
 dNew : ∀ b o, C'.D b o → C.D b o ∨ w.heap.size ≤ b ∨ I8 C H b
 dLt : ∀ b o, C'.D b o → b < w'.heap.size
 ownOld : ∀ b, b < w.heap.size → ¬ I8 C H b → C'.own b = C.own b
 ownNew : ∀ b q k, C'.own b = some (q, k) → (b < w.heap.size ∧ ¬ I8 C H b) ∨ (b < w'.heap.size ∧ (∀ o, C'.D b o → o < k) ∧ ∀ l ob R, get H' l = some ob → C'.ρ l ≠ some (b, R))
 heap : ∀ l ob, get H' l = some ob → ∃ b, C'.ρ l = some (b, ob.root) ∧ (w.heap.size ≤ b ∨ I8 C H b) ∧ OR P C' w' l b ob
 inj : ∀ l l' b R R' ob ob', get H' l = some ob → get H' l' = some ob' → C'.ρ l = some (b, R) → C'.ρ l' = some (b, R') → l = l'
 dObj : ∀ l ob b R o, get H' l = some ob → C'.ρ l = some (b, R) → ¬ C'.D b o
 keys : ∀ l ob, get H l = some ob → ∃ ob', get H' l = some ob'
 val : VW P C' w' v y
def HCall (P : Program) (G : List (Nat × TypeId × Pu)) (f : FuncId) (args : List PV) (HR H : List (Nat × Ob)) (v : PV) (H' : List (Nat × Ob)) (news : List Nat) : Prop :=
 ∀ C w (xs : Array Value), Frag P G C w HR H → VFs P C w args xs.toList → Calls P f xs w fun e w' => ∃ y C', e = .returned y ∧ After P C w H news C' w' H' v y
abbrev FCall (P : Program) (G : List (Nat × TypeId × Pu)) (f : FuncId) (args : List PV) (v : PV) : Prop := HCall P G f args [] [] v [] []
def VImp (P : Program) (v v' : PV) : Prop := ∀ C w x, VW P C w v x → VW P C w v' x
def ObImp (P : Program) (a b : Ob) : Prop := a.root = b.root ∧ ∀ C w l blk, OR P C w l blk a → OR P C w l blk b
theorem VImp.refl (v : PV) : VImp P v v := fun _ _ _ h => h
theorem VImp.trans {a b c : PV} (h : VImp P a b) (k : VImp P b c) : VImp P a c := fun C w x hx => k C w x (h C w x hx)
theorem ObImp.refl (a : Ob) : ObImp P a a := ⟨rfl, fun _ _ _ _ h => h⟩
theorem SatC.called {X : Ctx} {C C' : Cfg} {st : St} {a : Act} {w w' : World} {H H' : List (Nat × Ob)} {news : List Nat} {v : PV} {y : Value} (h : SatC P X C st a w) (A : After P C w H news C' w' H' v y)
  (hH : ∀ l ob, get H l = some ob → l ∉ X.R ∧ ∃ ob1, get st.heap l = some ob1) (hn : ∀ l ∈ news, Fresh st l ∧ get st.heap l = none ∧ l ∉ X.L) : SatC P X C' ⟨st.env, H' ++ st.heap⟩ a w' := by
 have M1 : ∀ b, I8 C H b → X.w0.heap.size ≤ b ∨ X.M b := fun b hb => by
  rcases hb with ⟨l, ob, R, h1, h2⟩ | ⟨l, p, k, ob, h1, h2⟩
  ·obtain ⟨hR, ob1, h3⟩ := hH l ob h1
   obtain ⟨b0, e1, e2, _⟩ := h.heap l ob1 h3
   rw [e1] at h2
   simp at h2
   rw [← h2.1];exact e2.resolve_left hR
  ·exact (h.own b _ k h1).1
 have old : ∀ l ob, get (H' ++ st.heap) l = some ob → get H' l = some ob ∨ (get H' l = none ∧ get H l = none ∧ get st.heap l = some ob) := fun l ob hl => by
  rw [c8] at hl
  cases hg : get H' l with
  | some ob' => rw [hg] at hl; simp at hl; subst hl; exact .inl rfl
  | none =>
   rw [hg] at hl
   refine .inr ⟨rfl, ?_, by simpa using hl⟩
   cases hg2 : get H l with
   | none => rfl
   | some o2 => obtain ⟨o3, h3⟩ := A.keys l o2 hg2; rw [hg] at h3; cases h3
 have noM : ∀ l ob b R, get st.heap l = some ob → get H l = none → C.ρ l = some (b, R) → ¬ I8 C H b := fun l ob b R hl hg hb hM => by
  rcases hM with ⟨l2, ob2, R2, h1, h2⟩ | ⟨l2, p, k, ob2, h1, h2⟩
  ·obtain ⟨_, ob3, h3⟩ := hH l2 ob2 h1
   have := h.inj l l2 b R R2 ob ob3 hl h3 hb h2
   rw [this, h1] at hg
   cases hg
  ·exact (h.own b _ k h1).2.2.2 l ob R hl hb
 have rho : ∀ l ob, get st.heap l = some ob → C'.ρ l = C.ρ l := fun l ob hl => A.rho l fun hm => by
  rw [(hn l hm).2.1] at hl
  cases hl
 have st1 : ∀ (ls : List Nat) (keep : Place → Prop), (∀ l ∈ news, l ∉ ls) → (∀ q, keep q → ∀ l p ob, q = .obj l p → get H l ≠ some ob) → Stays C C' w w' ls keep := fun ls keep h1 h2 =>
  ⟨fun b o hD => ⟨A.D b o hD, A.cell b o hD⟩, fun l hl => A.rho l fun hm => h1 l hm hl, fun b q k hb hq => by
   obtain ⟨_, hlt, _, hno⟩ := h.own b q k hb
   have hM : ¬ I8 C H b := by
    rintro (⟨l, ob, R, e1, e2⟩ | ⟨l, p, k', ob, e1, e2⟩)
    ·obtain ⟨_, ob3, h3⟩ := hH l ob e1
     exact hno l ob3 R h3 e2
    ·rw [hb] at e1
     simp at e1
     exact h2 q hq l p ob e1.1 e2
   exact ⟨(A.ownOld b hlt hM).trans hb, A.block b hlt hM⟩, A.ty⟩
 have hdf : DefOk X C' w' a.defers := h.defers.mono fun D _ hD ho => by
  have hM : ¬ I8 C H D := by
   rintro (⟨l, ob, R, e1, e2⟩ | ⟨l, p, k', ob, e1, e2⟩)
   ·obtain ⟨_, ob3, h3⟩ := hH l ob e1
    obtain ⟨b, f1, _, f3⟩ := h.heap l ob3 h3
    rw [f1] at e2
    simp at e2
    rw [e2.1] at f3
    exact f3.noDef hD
   ·rw [ho] at e1
    cases e1
  have hlt := C8 hD
  exact ⟨A.block D hlt hM, (A.ownOld D hlt hM).trans ho⟩
 refine ⟨h.size, hdf, ⟨A.os.trans h.framed.os, A.tape.trans h.framed.tape, A.output.trans h.framed.output, Nat.le_trans h.framed.size A.size, fun b hb hM => ?_, h.framed.ty.trans A.ty⟩, fun i u hu => ?_, fun l ob hl => ?_, fun l1 l2 b R R' o1 o2 h1 h2 e1 e2 => ?_, fun l ob b R o hl hρ hD => ?_, A.dLt,
  fun b q k hb => ?_, h.gl.mono (st1 _ _ (fun _ _ => by simp) fun q hq => hq.elim), ⟨fun l hl => (A.rho l fun hm => (hn l hm).2.2 hl).trans (h.kin.rho l hl), fun b o hD => A.D b o (h.kin.dOld b o hD), fun b o hD => ?_⟩, fun b o hD => (A.cell b o (h.kin.dOld b o hD)).trans (h.keep b o hD)⟩
 ·refine (A.block b (Nat.lt_of_lt_of_le hb h.framed.size) fun hm => ?_).trans (h.framed.block b hb hM)
  rcases M1 b hm with h1 | h1
  ·omega
  ·exact hM h1
 ·obtain ⟨x, h1, h2⟩ := h.env i u hu
  refine ⟨x, h1, h2.mono (st1 _ _ (fun l hl => (hn l hl).1.env i u hu) fun q hq l p ob e => ?_)⟩
  subst e
  simp [Keeps] at hq
 ·rcases old l ob hl with h1 | ⟨_, h2, h3⟩
  ·obtain ⟨b, e1, e2, e3⟩ := A.heap l ob h1
   refine ⟨b, e1, .inr ?_, e3⟩
   rcases e2 with e2 | e2
   ·exact .inl (Nat.le_trans h.framed.size e2)
   ·exact M1 b e2
  ·obtain ⟨b, e1, e2, e3⟩ := h.heap l ob h3
   refine ⟨b, (rho l ob h3).trans e1, e2, e3.mono (st1 _ _ (fun l' hl' => (hn l' hl').1.heap l ob h3 fun e => ?_) fun q hq l' p ob' e => ?_) (A.block b e3.lt (noM l ob b _ h3 h2 e1))⟩
   ·rw [e, (hn l' hl').2.1] at h3
    cases h3
   ·obtain ⟨r, lo, E, ps, rfl, _⟩ := hq
    simp at e
    rw [← e.1, h2]
    simp
 ·have mix : ∀ l1 l2 o1 o2 b R R', get H' l1 = some o1 → (get H l2 = none ∧ get st.heap l2 = some o2) → C'.ρ l1 = some (b, R) → C'.ρ l2 = some (b, R') → False := fun l1 l2 o1 o2 b R R' h1 ⟨h2, h3⟩ e1 e2 => by
   rw [rho l2 o2 h3] at e2
   obtain ⟨b', f1, f2, _⟩ := A.heap l1 o1 h1
   rw [f1] at e1
   simp at e1
   obtain ⟨rfl, _⟩ := e1
   rcases f2 with f2 | f2
   ·have := h.block_lt h3 e2
    omega
   ·exact noM l2 o2 b' _ h3 h2 e2 f2
  rcases old l1 o1 h1 with k1 | ⟨_, k1, k1'⟩ <;> rcases old l2 o2 h2 with k2 | ⟨_, k2, k2'⟩
  ·exact A.inj l1 l2 b R R' o1 o2 k1 k2 e1 e2
  ·exact (mix l1 l2 o1 o2 b R R' k1 ⟨k2, k2'⟩ e1 e2).elim
  ·exact (mix l2 l1 o2 o1 b R' R k2 ⟨k1, k1'⟩ e2 e1).elim
  ·rw [rho l1 o1 k1'] at e1
   rw [rho l2 o2 k2'] at e2
   exact h.inj l1 l2 b R R' o1 o2 k1' k2' e1 e2
 ·rcases old l ob hl with h1 | ⟨_, h2, h3⟩
  ·exact A.dObj l ob b R o h1 hρ hD
  ·rw [rho l ob h3] at hρ
   rcases A.dNew b o hD with hd | hd | hd
   ·exact h.dObj l ob b R o h3 hρ hd
   ·have := h.block_lt h3 hρ
    omega
   ·exact noM l ob b R h3 h2 hρ hd
 ·by_cases hc : b < w.heap.size ∧ ¬ I8 C H b
  ·rw [A.ownOld b hc.1 hc.2] at hb
   obtain ⟨g1, g2, g3, g4⟩ := h.own b q k hb
   refine ⟨g1, Nat.lt_of_lt_of_le g2 A.size, fun o hD => ?_, fun l ob R hl hρ => ?_⟩
   ·rcases A.dNew b o hD with hd | hd | hd
    ·exact g3 o hd
    ·omega
    ·exact (hc.2 hd).elim
   ·rcases old l ob hl with h1 | ⟨_, _, h3⟩
    ·obtain ⟨b', f1, f2, _⟩ := A.heap l ob h1
     rw [f1] at hρ
     simp at hρ
     obtain ⟨rfl, _⟩ := hρ
     rcases f2 with f2 | f2
     ·omega
     ·exact hc.2 f2
    ·rw [rho l ob h3] at hρ
     exact g4 l ob R h3 hρ
  ·obtain ⟨g1, g2, g3⟩ := (A.ownNew b q k hb).resolve_left hc
   have hM : w.heap.size ≤ b ∨ I8 C H b := by
    by_cases hlt : b < w.heap.size
    ·by_cases hm : I8 C H b
     ·exact .inr hm
     ·exact absurd ⟨hlt, hm⟩ hc
    ·exact .inl (Nat.not_lt.1 hlt)
   refine ⟨?_, g1, g2, fun l ob R hl hρ => ?_⟩
   ·rcases hM with hM | hM
    ·exact .inl (Nat.le_trans h.framed.size hM)
    ·exact M1 b hM
   ·rcases old l ob hl with h1 | ⟨_, h2, h3⟩
    ·exact g3 l ob R h1 hρ
    ·rw [rho l ob h3] at hρ
     rcases hM with hM | hM
     ·have := h.block_lt h3 hρ
      omega
     ·exact noM l ob b R h3 h2 hρ hM
 ·rcases A.dNew b o hD with hd | hd | hd
  ·exact h.kin.dNew b o hd
  ·exact .inr (.inl (Nat.le_trans h.framed.size hd))
  ·exact .inr (M1 b hd)
def fnV : PV → Option (FuncId × List PV × List PV)
 | .pu (.leaf (.func (.func f) fs cs)) => if fs.size = 0 ∧ cs.size = 0 then some (f, [], []) else none
 | .fn (.func f) first captured => some (f, first, captured)
 | _ => none
theorem aj0 {C : Cfg} {w : World} {v : PV} {x : Value} {f : FuncId} {first captured : List PV} (h : VW P C w v x) (hf : fnV v = some (f, first, captured)) :
  ∃ xs ys : Array Value, x = .func (.func f) xs ys ∧ VFs P C w first xs.toList ∧ VFs P C w captured ys.toList := by
 unfold fnV at hf
 split at hf
 ·rename_i g fs cs
  split at hf
  ·rename_i hz
   simp at hf
   obtain ⟨rfl, rfl, rfl⟩ := hf
   obtain ⟨rfl, _⟩ := h.leaf_inv
   have e1 : fs = #[] := Array.eq_empty_of_size_eq_zero hz.1
   have e2 : cs = #[] := Array.eq_empty_of_size_eq_zero hz.2
   subst e1 e2;exact ⟨#[], #[], rfl, .nil, .nil⟩
  ·simp at hf
 ·simp at hf
  obtain ⟨rfl, rfl, rfl⟩ := hf
  have hc := h.cell rfl (fun _ => by simp)
  generalize hz : [x] = z at hc
  cases hc with
  | fn h1 h2 => simp at hz; exact ⟨_, _, hz, h1, h2⟩
 ·simp at hf
theorem VFs.append {C : Cfg} {w : World} : ∀ {as bs : List PV} {xs ys : List Value}, VFs P C w as xs → VFs P C w bs ys → VFs P C w (as ++ bs) (xs ++ ys)
 | _, _, _, _, .nil, h => h
 | _, _, _, _, .cons hv hs h, k => .cons hv hs (VFs.append h k)
inductive VImps (P : Program) : List PV → List PV → Prop
 | nil : VImps P [] []
 | cons {v v' : PV} {vs vs' : List PV} (h : VImp P v v') (t : VImps P vs vs') : VImps P (v :: vs) (v' :: vs')
theorem VImps.refl : ∀ (vs : List PV), VImps P vs vs
 | [] => .nil
 | v :: vs => .cons (VImp.refl v) (VImps.refl vs)
theorem VFs.imp {C : Cfg} {w : World} : ∀ {as bs : List PV} {xs : List Value}, VFs P C w as xs → VImps P as bs → (∀ v ∈ bs, ∀ us, v ≠ .tup us) → VFs P C w bs xs
 | _, _, _, .nil, .nil, _ => .nil
 | _, _, _, .cons hv hs h, .cons hi t, hn => by
  obtain ⟨h1, h2⟩ := (hi C w _ (.one hv hs)).nt (hn _ (by simp))
  exact .cons h1 h2 (VFs.imp h t fun v hv => hn v (by simp [hv]))
def j8 (P : Program) (f : FuncId) : Bool := match P.funcs[f]? with
 | some fn => fn.name != "runtime.NumGoroutine" && fn.body.isSome
 | none => false
theorem J9 {f : FuncId} (h : j8 P f = true) (args : Array Value) (w : World) : (callFunc f args).run P w = .ok (.enter f args) w := by
 unfold j8 at h
 split at h
 ·rename_i fn hf
  simp only [Bool.and_eq_true, bne_iff_ne, ne_eq] at h
  obtain ⟨c, hc⟩ := Option.isSome_iff_exists.1 h.2
  simp [callFunc, hf, h.1, hc]
 ·simp at h
theorem ax9 {X : Ctx} {C : Cfg} {st : St} {o : Oper} {a : Act} {w : World} (h : SatC P X C st a w) {fo : Operand} {as : Array Operand} {ts : Array TypeId} {f : FuncId} {vf : PV} {raw first captured args : List PV} {HR H H' : List (Nat × Ob)} {v : PV} {news : List Nat}
  (hop : o.op = .call ⟨.value fo, as, ts⟩) (hfo : b9 X.G st.env fo = some vf) (hfv : fnV (strip vf) = some (f, first, captured)) (he : j8 P f = true) (hraw : evalL X.G st.env as.toList = some raw) (hnt : (raw.map strip).any j1 = false)
  (himp : VImps P (first ++ raw.map strip ++ captured) args) (hnt' : args.any j1 = false) (hHR : ∀ l ob, get HR l = some ob → ∃ ob1, get st.heap l = some ob1 ∧ ObImp P ob1 ob) (hH : ∀ l ob, get H l = some ob → l ∉ X.R ∧ ∃ ob1, get st.heap l = some ob1 ∧ ObImp P ob1 ob)
  (hc : ∀ xs : Array Value, Frag P X.G C w HR H → VFs P C w args xs.toList → Calls P f xs w fun e w' => ∃ y C', e = .returned y ∧ After P C w H news C' w' H' v y) (hn : ∀ l ∈ news, Fresh st l ∧ get st.heap l = none ∧ l ∉ X.L) (hd : C5 X.n o.dst = true) : Exec P X C st o a w { v := v, heap := H' } := by
 intro K Q hK
 obtain ⟨xs, ys, e1, e2, e3⟩ := aj0 (h.eval hfo) hfv
 have har := (h.evalL hraw).vfs (M5 hnt)
 have hvf : VFs P C w args (xs.toList ++ as.toList.map a.eval ++ ys.toList) := ((e2.append har).append e3).imp himp (M5 hnt')
 have hcall := hc (xs ++ as.map a.eval ++ ys) ⟨fun l ob hl => ?_, fun l l' b R R' ob ob' h1 h2 => ?_, fun l ob b R o' hl => ?_, h.dLt, fun b q k hb => ?_, h.gl⟩ (by simpa using hvf)
 case refine_1 =>
  rw [c8] at hl
  cases hg : get HR l with
  | some ob' =>
   rw [hg] at hl
   simp at hl
   subst hl
   obtain ⟨ob1, k1, k2, k3⟩ := hHR l ob' hg
   obtain ⟨b, f1, _, f3⟩ := h.heap l ob1 k1
   exact ⟨b, by rw [← k2]; exact f1, k3 _ _ _ _ f3⟩
  | none =>
   rw [hg] at hl
   obtain ⟨_, ob1, k1, k2, k3⟩ := hH l ob (by simpa using hl)
   obtain ⟨b, f1, _, f3⟩ := h.heap l ob1 k1
   exact ⟨b, by rw [← k2]; exact f1, k3 _ _ _ _ f3⟩
 all_goals
  have inH : ∀ l ob, get (HR ++ H) l = some ob → ∃ ob1, get st.heap l = some ob1 := fun l ob hl => by
   rw [c8] at hl
   cases hg : get HR l with
   | some ob' => obtain ⟨ob1, k1, _⟩ := hHR l ob' hg; exact ⟨ob1, k1⟩
   | none =>
    rw [hg] at hl
    obtain ⟨_, ob1, k1, _⟩ := hH l ob (by simpa using hl)
    exact ⟨ob1, k1⟩
 case refine_2 =>
  obtain ⟨p1, f1⟩ := inH l ob h1
  obtain ⟨p2, f2⟩ := inH l' ob' h2
  exact h.inj l l' b R R' p1 p2 f1 f2
 case refine_3 =>
  obtain ⟨p1, f1⟩ := inH l ob hl
  exact h.dObj l p1 b R o' f1
 case refine_4 =>
  obtain ⟨_, g2, g3, g4⟩ := h.own b q k hb
  refine ⟨g2, g3, fun l ob R hl => ?_⟩
  obtain ⟨p1, f1⟩ := inH l ob hl
  exact g4 l p1 R f1
 clear inH
 unfold Oper.wp
 have hrun : (execOp a.eval o).run P w = .ok (.enter f (xs ++ as.map a.eval ++ ys)) w := by
  obtain ⟨dst, op, type, pos, after, guard⟩ := o
  simp only at hop
  subst hop
  simp [execOp, resolve, e1, Deferred.ofValue, invoke, J9 he]
 rw [hrun, Oper.upon_enter]
 refine hcall.mono fun e w' ⟨y, C', hy, A⟩ => ?_
 subst hy
 have hs := h.called A (fun l ob hl => let ⟨k1, ob1, k2, _⟩ := hH l ob hl; ⟨k1, ob1, k2⟩) hn
 refine hK C' y w' ?_ ⟨fun l ob hl => A.rho l fun hm => ?_, fun l ob b R hl hg hb => ?_⟩ (fun L d hL => by simp at hL)
 ·cases hdst : o.dst with
  | none => exact hs
  | some d => exact hs.put (t6 hd d hdst) (A.val.vt d)
 ·rw [(hn l hm).2.1] at hl
  cases hl
 ·refine A.block b (h.block_lt hl hb) ?_
  rintro (⟨l2, ob2, R2, h1, h2⟩ | ⟨l2, p, k, ob2, h1, h2⟩)
  ·obtain ⟨_, ob3, h3, _⟩ := hH l2 ob2 h1
   have := h.inj l l2 b R R2 ob ob3 hl h3 hb h2
   subst this
   obtain ⟨ob4, h4⟩ := A.keys l ob2 h1
   simp only at hg
   rw [h4] at hg
   cases hg
  ·exact (h.own b _ k h1).2.2.2 l ob R hl hb
theorem ad4 {X : Ctx} {C : Cfg} {st : St} {o : Oper} {a : Act} {w : World} (h : SatC P X C st a w) {fo : Operand} {as : Array Operand} {ts : Array TypeId} {f : FuncId} {vf : PV} {raw first captured args : List PV} {HR H H' : List (Nat × Ob)} {v : PV} {news : List Nat}
  (hop : o.op = .call ⟨.value fo, as, ts⟩) (hfo : b9 X.G st.env fo = some vf) (hfv : fnV (strip vf) = some (f, first, captured)) (he : j8 P f = true) (hraw : evalL X.G st.env as.toList = some raw) (hnt : (raw.map strip).any j1 = false)
  (himp : VImps P (first ++ raw.map strip ++ captured) args) (hnt' : args.any j1 = false) (hHR : ∀ l ob, get HR l = some ob → ∃ ob1, get st.heap l = some ob1 ∧ ObImp P ob1 ob) (hH : ∀ l ob, get H l = some ob → l ∉ X.R ∧ ∃ ob1, get st.heap l = some ob1 ∧ ObImp P ob1 ob)
  (hc : HCall P X.G f args HR H v H' news) (hn : ∀ l ∈ news, Fresh st l ∧ get st.heap l = none ∧ l ∉ X.L) (hd : C5 X.n o.dst = true) : Exec P X C st o a w { v := v, heap := H' } :=
 ax9 h hop hfo hfv he hraw hnt himp hnt' hHR hH (hc C w) hn hd
def e9 (H : List (Nat × Ob)) : List Nat := H.map (·.1)
def u4 : List (Nat × Ob) → List Nat
 | [] => []
 | (_, ob) :: r => ob.labs ++ u4 r
theorem J6 {l : Nat} : ∀ {H : List (Nat × Ob)} {q : Nat × Ob}, q ∈ H → l ∈ q.2.labs → l ∈ u4 H
 | (_, ob) :: r, q, hq, hl => by
  simp only [u4, List.mem_append]
  rcases List.mem_cons.1 hq with rfl | hq
  ·exact .inl hl
  ·exact .inr (J6 hq hl)
theorem m4 {α : Type} {H : List (Nat × α)} {l : Nat} {ob : α} (h : get H l = some ob) : l ∈ H.map (·.1) := List.mem_map.2 ⟨_, D1 h, rfl⟩
theorem bt2 {X : Ctx} {ops : Array Oper} {st : St} {o : Oper} {fo : Operand} {as : Array Operand} {ts : Array TypeId} {f : FuncId} {vf : PV} {raw first captured args : List PV} {HR H H' : List (Nat × Ob)} {v : PV} {news : List Nat}
  (hg : o.guard = none) (hop : o.op = .call ⟨.value fo, as, ts⟩) (hfo : b9 X.G st.env fo = some vf) (hfv : fnV (strip vf) = some (f, first, captured)) (he : j8 P f = true) (hraw : evalL X.G st.env as.toList = some raw) (hnt : (raw.map strip).any j1 = false)
  (himp : VImps P (first ++ raw.map strip ++ captured) args) (hnt' : args.any j1 = false) (hHR : ∀ l ob, get HR l = some ob → ∃ ob1, get st.heap l = some ob1 ∧ ObImp P ob1 ob) (hH : ∀ l ob, get H l = some ob → l ∉ X.R ∧ ∃ ob1, get st.heap l = some ob1 ∧ ObImp P ob1 ob)
  (hc : HCall P X.G f args HR H v H' news) (hd : C5 X.n o.dst = true) : Does P X ops st ⟨o, { v := v, heap := H' }, { reads := c9 (fo :: as.toList), hreads := e9 HR ++ e9 H, news := news, labs := v.labs ++ u4 H' }⟩ where
 labs l h := by
  simp only [List.mem_append]
  rcases h with h | ⟨q, hq, _⟩ | ⟨q, hq, hl⟩
  ·exact .inl h
  ·cases hq
  ·exact .inr (J6 hq hl)
 live L h := by simp at h
 exec st' ha hn C a w hs _ := by
  have hfo' : b9 X.G st'.env fo = some vf := by
   rw [d5 (env := st.env) fun t e => ha.env t (f0 (by rw [e]; simp))];exact hfo
  have hr : evalL X.G st'.env as.toList = some raw := by
   rw [u6 (env := st.env) fun t ht => ha.env t (by
    unfold c9 at *
    rw [List.filterMap_cons]
    split
    ·exact ht
    ·exact List.mem_cons_of_mem _ ht)]
   exact hraw
  refine .of ((Guard.none hg).wanted hs) (ad4 hs hop hfo' hfv he hr hnt himp hnt' (fun l ob hl => ?_) (fun l ob hl => ?_) hc hn hd)
  ·obtain ⟨ob1, k1, k2⟩ := hHR l ob hl
   exact ⟨ob1, by rw [ha.heap l (by simp only [List.mem_append]; exact .inl (m4 hl))]; exact k1, k2⟩
  ·obtain ⟨k0, ob1, k1, k2⟩ := hH l ob hl
   exact ⟨k0, ob1, by rw [ha.heap l (by simp only [List.mem_append]; exact .inr (m4 hl))]; exact k1, k2⟩
end
section
variable {P : Program} {lo : Nat} {G : List (Nat × TypeId × Pu)}
def L9 : Nat → List PV → List (Nat × PV)
 | _, [] => []
 | i, v :: vs => (i, v) :: L9 (i + 1) vs
theorem am3 : ∀ {vs : List PV} {i j : Nat} {v : PV}, get (L9 i vs) j = some v → i ≤ j ∧ vs[j - i]? = some v
 | [], i, j, v, h => by simp [L9, get] at h
 | u :: vs, i, j, v, h => by
  simp only [L9, get] at h
  split at h
  ·rename_i e
   subst e
   simpa using h
  ·obtain ⟨h1, h2⟩ := am3 h
   refine ⟨by omega, ?_⟩
   rw [show j - i = (j - (i + 1)) + 1 by omega]
   simpa using h2
theorem VFs.length : ∀ {C : Cfg} {w : World} {vs : List PV} {ys : List Value}, VFs P C w vs ys → vs.length = ys.length
 | _, _, _, _, .nil => rfl
 | _, _, _, _, .cons _ _ h => by simp [VFs.length h]
theorem VFs.at {C : Cfg} {w : World} : ∀ {vs : List PV} {xs : List Value}, VFs P C w vs xs → ∀ (i : Nat) (v : PV), vs[i]? = some v → ∃ x, xs[i]? = some x ∧ VR P C w none v x.cells.toList ∧ d7 x = v.isAgg
 | _, _, .nil, i, v, h => by simp at h
 | _, _, .cons hv hs h, 0, v, hi => by simp at hi; subst hi; exact ⟨_, rfl, hv, hs⟩
 | _, _, .cons hv hs h, i + 1, v, hi => by simpa using h.at i v (by simpa using hi)
def ah6 (P : Program) (st : St) : ResultVar → Option PV
 | .tmp t => match get st.env t with
  | some u => if j1 u then none else some (strip u)
  | none => none
 | .cell a T => match get st.env a with
  | some (.ptr l p T') => if okT P T T' = true then match get st.heap l with
    | some ob => match ob.get p with
     | some u => if j1 u then none else some (strip u)
     | none => none
    | none => none
   else none
  | _ => none
def aN3 (P : Program) (st : St) : List ResultVar → Option (List PV)
 | [] => some []
 | r :: rs => match ah6 P st r with
  | some v => match aN3 P st rs with
   | some vs => some (v :: vs)
   | none => none
  | none => none
def res (P : Program) (st : St) (rs : List ResultVar) : Option PV := match aN3 P st rs with
 | some [v] => some v
 | some vs => some (.tup vs)
 | none => none
def af7 (tmps : Array Value) (r : ResultVar) : Sem Value := match r with
 | .tmp t => pure (tmps.getD t undef)
 | .cell a t => do loadVar t (← asAddr (tmps.getD a undef))
theorem ao5 (u : PV) : j1 (strip u) = j1 u := by cases u <;> rfl
theorem bz1 (hT : j3 P = true) {X : Ctx} {C : Cfg} {st : St} {a : Act} {w : World} (h : SatC P X C st a w) {r : ResultVar} {v : PV} (hr : ah6 P st r = some v) :
  ∃ y, (af7 a.tmps r).run P w = .ok y w ∧ VR P C w none v y.cells.toList ∧ d7 y = v.isAgg := by
 cases r with
 | tmp t =>
  simp only [ah6] at hr
  split at hr
  ·rename_i u hu
   split at hr
   ·simp at hr
   ·rename_i ht
    simp at hr
    subst hr
    obtain ⟨x, h1, h2⟩ := h.env t u hu
    obtain ⟨h3, h4⟩ := h2.vw.nt fun us e => ht (by rw [← ao5, e]; rfl)
    exact ⟨x, by simp [af7, Array.getD_eq_getD_getElem?, h1], h3, h4⟩
  ·simp at hr
 | cell t T =>
  simp only [ah6] at hr
  split at hr
  ·rename_i l p T' hp
   split at hr
   ·rename_i hok
    split at hr
    ·rename_i ob hl
     split at hr
     ·rename_i u hg
      split at hr
      ·simp at hr
      ·rename_i ht
       simp at hr
       subst hr
       obtain ⟨x, h1, h2⟩ := h.env t _ hp
       have hvw := h2.vw
       obtain ⟨b, off, R, rfl, _, _⟩ := N1 hvw
       obtain ⟨y, e1, e2, _⟩ := aw4 hT h hvw hok hl hg
       obtain ⟨h3, h4⟩ := e2.nt fun us e => ht (by rw [← ao5, e]; rfl)
       refine ⟨y, ?_, h3, h4⟩
       simp [af7, Array.getD_eq_getD_getElem?, h1, asAddr]
       simpa [Instr.loadAt, Instr.sureAddr] using e1
     ·simp at hr
    ·simp at hr
   ·simp at hr
  ·simp at hr
theorem at5 (hT : j3 P = true) {X : Ctx} {C : Cfg} {st : St} {a : Act} {w : World} (h : SatC P X C st a w) : ∀ {rs : List ResultVar} {vs : List PV}, aN3 P st rs = some vs →
  ∃ ys : List Value, (rs.mapM (af7 a.tmps)).run P w = .ok ys w ∧ VFs P C w vs ys
 | [], vs, hr => by simp [aN3] at hr; subst hr; exact ⟨[], by simp, .nil⟩
 | r :: rs, vs, hr => by
  simp only [aN3] at hr
  split at hr
  ·rename_i v hv
   split at hr
   ·rename_i us hus
    simp at hr
    subst hr
    obtain ⟨y, e1, e2, e3⟩ := bz1 hT h hv
    obtain ⟨ys, f1, f2⟩ := at5 hT h hus
    exact ⟨y :: ys, by simp [List.mapM_cons, e1, f1], .cons e2 e3 f2⟩
   ·simp at hr
  ·simp at hr
theorem bL3 (hT : j3 P = true) {X : Ctx} {C : Cfg} {st : St} {a : Act} {w : World} (h : SatC P X C st a w) {fn : Func} {v : PV} (hr : res P st fn.results.toList = some v) : ∃ y, (results fn a.tmps).run P w = .ok y w ∧ VW P C w v y := by
 have hm : results fn a.tmps = (do let vs ← fn.results.mapM (af7 a.tmps); pure (if h : vs.size = 1 then vs[0] else .tuple vs)) := by
  unfold results
  congr 1
 have hms : ∀ ys, (fn.results.toList.mapM (af7 a.tmps)).run P w = .ok ys w → (fn.results.mapM (af7 a.tmps)).run P w = .ok ys.toArray w := fun ys hy => by
  rw [Array.mapM_eq_mapM_toList]
  simp [hy]
 unfold res at hr
 split at hr
 ·rename_i v' hl
  simp at hr
  subst hr
  obtain ⟨ys, e1, e2⟩ := at5 hT h hl
  cases e2 with
  | cons h1 h2 t =>
   cases t
   refine ⟨_, by rw [hm]; simp [hms _ e1], .one h1 h2⟩
 ·rename_i vs hne hl
  simp at hr
  subst hr
  obtain ⟨ys, e1, e2⟩ := at5 hT h hl
  refine ⟨.tuple ys.toArray, ?_, .tup (by simpa using e2)⟩
  rw [hm]
  have : ys.toArray.size ≠ 1 := fun e => by
   simp at e
   have hv := e2.length
   rw [e] at hv
   obtain ⟨v1, rfl⟩ := List.length_eq_one_iff.1 hv
   exact hne v1 rfl
  simp only [Sem.run_bind, hms _ e1, Result.andThen, dif_neg this]
  rfl
 ·simp at hr
def Ghost (P : Program) (X : Ctx) (st st' : St) : Prop := ∀ C a w, SatC P X C st a w → ∃ C', SatC P X C' st' a w
theorem Ghost.refl {X : Ctx} (st : St) : Ghost P X st st := fun C _ _ h => ⟨C, h⟩
def freeV : PV → Bool
 | .ow _ _ _ => false
 | .fl _ _ => false
 | .agg _ vs => freeL vs
 | _ => true
  where freeL : List PV → Bool
 | [] => true
 | v :: vs => freeV v && freeL vs
def B1 : Ob → Bool
 | .var _ v => freeV v
 | .row _ vs => freeV.freeL vs
 | .map _ _ _ => true
 | .loop _ => true
theorem aS4 : ∀ {vs : List PV}, freeV.freeL vs = true → ∀ (i : Nat) (u : PV), vs[i]? = some u → freeV u = true
 | [], _, i, u, h => by simp at h
 | v :: vs, h, 0, u, hi => by
  simp only [freeV.freeL, Bool.and_eq_true] at h
  simp at hi; subst hi; exact h.1
 | v :: vs, h, i + 1, u, hi => by
  simp only [freeV.freeL, Bool.and_eq_true] at h
  exact aS4 h.2 i u (by simpa using hi)
theorem V7 : ∀ {r : List Nat} {v : PV}, freeV v = true → ∀ {lo : Nat} {E : TypeId} {ps : List Pu}, D9 v r ≠ some (oww lo E ps)
 | [], v, h, lo, E, ps => by
  rw [aR5]
  intro e
  simp at e
  subst e
  cases lo <;> simp [freeV, oww] at h
 | i :: r, v, h, lo, E, ps => by
  cases v with
  | pu p =>
   cases p with
   | agg T qs =>
    simp only [D9]
    split
    ·exact V7 (r := r) rfl
    ·simp
   | _ => simp [D9]
  | agg T vs =>
   simp only [D9]
   split
   ·rename_i u hu
    exact V7 (aS4 (by simpa [freeV] using h) i u hu)
   ·simp
  | _ => simp [D9]
theorem aS3 {ob : Ob} (h : B1 ob = true) {l : Nat} {q : Place} : ¬ az8 l ob q := by
 rintro ⟨r, lo, E, ps, _, hg⟩
 cases ob with
 | var T v => exact V7 (v := v) (by simpa [B1] using h) hg
 | row E' vs =>
  cases r with
  | nil => simp [Ob.get] at hg
  | cons i r =>
   simp only [Ob.get] at hg
   split at hg
   ·rename_i u hu
    have : freeV (.agg 0 vs) = true := by simpa [freeV, B1] using h
    exact V7 (v := .agg 0 vs) (r := i :: r) (lo := lo) (E := E) (ps := ps) this (by simp [D9, hu, hg])
   ·simp at hg
 | map K V es => simp [Ob.get] at hg
 | loop r => simp [Ob.get] at hg
theorem SatC.mark {X : Ctx} {C : Cfg} {st : St} {a : Act} {w : World} {d : Deferred} {ds : List Deferred} (h : SatC P X C st a w) (hd : a.defers = d :: ds) :
  ∃ D, d.target = .collected D ∧ w.heap[D]? = some (.deferred (some [])) ∧ SatC P X C st { a with defers := ds } (w.putObj D (.deferred none)) := by
 have hdf := h.defers
 rw [hd] at hdf
 obtain ⟨D, h1, h2, h3, h4⟩ := hdf.2 d (by simp)
 have hcell : ∀ b o, (w.putObj D (.deferred none)).cell? ⟨b, o, none⟩ = w.cell? ⟨b, o, none⟩ := fun b o => by
  by_cases e : b = D
  ·subst e
   simp only [World.cell?, World.putObj_heap_same (C8 h3), h3]
  ·simp only [World.cell?, World.putObj_heap_other e]
 have hty : TyKeep w (w.putObj D (.deferred none)) := fun b c E hb => ⟨c, by
  have : b ≠ D := fun e => by subst e; rw [h3] at hb; cases hb
  rw [World.putObj_heap_other this]; exact hb⟩
 have stays : ∀ (ls : List Nat) keep, Stays C C w (w.putObj D (.deferred none)) ls keep := fun ls keep =>
  ⟨fun b o hD => ⟨hD, hcell b o⟩, fun _ _ => rfl, fun b q k hb _ => ⟨hb, World.putObj_heap_other fun e => by subst e; rw [h4] at hb; cases hb⟩, hty⟩
 refine ⟨D, by rw [h1], h3, h.size, ⟨(List.nodup_cons.1 hdf.1).2, fun d' hd' => ?_⟩, ⟨h.framed.os, h.framed.tape, h.framed.output, by simpa using h.framed.size, fun b hb hM => ?_, h.framed.ty.trans hty⟩, fun i v hv => ?_, fun l ob hl => ?_, h.inj, h.dObj, fun b o hD => by simpa using h.dLt b o hD, fun b q k hb => by simpa using h.own b q k hb, h.gl.mono (stays _ _), h.kin, fun b o hD => (hcell b o).trans (h.keep b o hD)⟩
 ·obtain ⟨D', k1, k2, k3, k4⟩ := hdf.2 d' (by simp [hd'])
  refine ⟨D', k1, k2, ?_, k4⟩
  rw [World.putObj_heap_other fun e => ?_]
  ·exact k3
  ·subst e
   exact (List.nodup_cons.1 hdf.1).1 (by rw [h1, ← k1]; exact hd')
 ·rw [World.putObj_heap_other fun e => by
   subst e
   rcases h2 with h2 | h2
   ·omega
   ·exact hM h2]
  exact h.framed.block b hb hM
 ·obtain ⟨x, e1, e2⟩ := h.env i v hv
  exact ⟨x, e1, e2.mono (stays _ _)⟩
 ·obtain ⟨b, e1, e2, e3⟩ := h.heap l ob hl
  exact ⟨b, e1, e2, e3.mono (stays _ _) (World.putObj_heap_other fun e => by subst e; exact e3.noDef h3)⟩
theorem V3 {X : Ctx} {C : Cfg} {st : St} {fn : Func} {R : Ending → World → Prop} : ∀ (ds : List Deferred) {a : Act} {w : World}, a.defers = ds → SatC P X C st a w →
  (∀ w', SatC P X C st { a with defers := [] } w' → ∃ v, (results fn a.tmps).run P w' = .ok v w' ∧ R (.returned v) w') → LeavesInM Fence.wide 0 P fn a.tmps R ds .returning w
 | [], a, w, hd, h, k => k w (by rw [show ({ a with defers := [] } : Act) = a by cases a; simp_all]; exact h)
 | d :: ds, a, w, hd, h, k => by
  obtain ⟨D, h1, h2, h3⟩ := h.mark hd
  exact ⟨by simp, .inl ⟨D, _, h1, run_takeDeferred h2, V3 ds (a := { a with defers := ds }) rfl h3 k⟩⟩
theorem Frag.sat {C : Cfg} {w : World} {HR H : List (Nat × Ob)} (F : Frag P G C w HR H) {X : Ctx} (q0 : X.w0 = w) (q1 : X.M = I8 C H) (q2 : X.G = G) (q3 : X.R = e9 HR) (q4 : X.ρ0 = C.ρ) (q5 : X.D0 = C.D) (hfree : ∀ l ob, get HR l = some ob → B1 ob = true)
  {env : List (Nat × PV)} {a : Act} (hn : a.tmps.size = X.n) (hd : a.defers = []) (henv : ∀ i u, get env i = some u → ∃ x, a.tmps[i]? = some x ∧ VR P C w none u x.cells.toList ∧ d7 x = u.isAgg) : ∃ C0, SatC P X C0 ⟨env, HR ++ H⟩ a w := by
 obtain ⟨w0, n', M, G', L, R, ρ0, D0, ro⟩ := X
 simp only at q0 q1 q2 q3 q4 q5 hn
 subst q0 q1 q2 q3 q4 q5
 let C0 : Cfg := { C with own := fun b => match C.own b with
  | some (.obj l p, k) => if (get H l).isSome then some (.obj l p, k) else none
  | _ => none }
 have own0 : ∀ b q k, C0.own b = some (q, k) → C.own b = some (q, k) ∧ ∃ l p ob, q = .obj l p ∧ get H l = some ob := fun b q k hb => by
  simp only [C0] at hb
  split at hb
  ·rename_i l p k' he
   split at hb
   ·rename_i hs
    simp at hb
    obtain ⟨rfl, rfl⟩ := hb
    obtain ⟨ob, ho⟩ := Option.isSome_iff_exists.1 hs
    exact ⟨he, l, p, ob, rfl, ho⟩
   ·simp at hb
  ·simp at hb
 have stays0 : ∀ (ls : List Nat) (keep : Place → Prop), (∀ q, keep q → ∃ l p ob, q = .obj l p ∧ get H l = some ob) → Stays C C0 w0 w0 ls keep := fun ls keep hk =>
  ⟨fun b o hD => ⟨hD, rfl⟩, fun _ _ => rfl, fun b q k hb hq => by
   obtain ⟨l, p, ob, rfl, ho⟩ := hk q hq
   exact ⟨by simp [C0, hb, ho], rfl⟩, TyKeep.refl _⟩
 refine ⟨C0, ?_⟩
 refine ⟨hn, by rw [hd]; exact DefOk.nil, ⟨rfl, rfl, rfl, Nat.le_refl _, fun _ _ _ => rfl, TyKeep.refl _⟩, fun i u hu => ?_, fun l ob hl => ?_, fun l l' b R R' ob ob' => F.inj l l' b R R' ob ob', fun l ob b R o => F.dObj l ob b R o, F.dLt, fun b q k hb => ?_, F.gl.mono (stays0 _ _ fun q hq => hq.elim), ⟨fun _ _ => rfl, fun _ _ h => h, fun _ _ h => .inl h⟩, fun _ _ _ => rfl⟩
 ·obtain ⟨x, h3, h4, h5⟩ := henv i u hu
  exact ⟨x, h3, VT.of_none (h4.mono (stays0 _ _ fun q hq => by simp [Keeps] at hq)) h5⟩
 ·obtain ⟨b, h1, h2⟩ := F.heap l ob hl
  rw [c8] at hl
  cases hg : get HR l with
  | some ob' =>
   rw [hg] at hl
   simp at hl
   subst hl
   refine ⟨b, h1, .inl (m4 hg), h2.mono (stays0 _ _ fun q hq => absurd hq (aS3 (hfree l ob' hg))) rfl⟩
  | none =>
   rw [hg] at hl
   have hl' : get H l = some ob := by simpa using hl
   refine ⟨b, h1, .inr (.inr (.inl ⟨l, ob, ob.root, hl', h1⟩)), h2.mono (stays0 _ _ fun q hq => ?_) rfl⟩
   obtain ⟨r, lo, E, ps, rfl, _⟩ := hq
   exact ⟨l, r, ob, rfl, hl'⟩
 ·obtain ⟨h1, l, p, ob, rfl, ho⟩ := own0 b q k hb
  obtain ⟨h2, h3, h4⟩ := F.own b _ k h1
  exact ⟨.inr (.inr ⟨l, p, k, ob, h1, ho⟩), h2, h3, h4⟩
theorem SatC.after {X : Ctx} {C C1 : Cfg} {w w' : World} {st' : St} {a' : Act} {HR H H' : List (Nat × Ob)} {v u : PV} {y : Value} {news L : List Nat} (hs : SatC P X C1 st' a' w') (q0 : X.w0 = w) (q1 : X.M = I8 C H) (q3 : X.R = e9 HR) (q4 : X.ρ0 = C.ρ) (q5 : X.D0 = C.D) (q6 : X.L = L)
  (hdis : ∀ l ob, get H' l = some ob → get HR l = none) (hLv : ∀ l ∈ v.labs, l ∈ L ∨ l ∈ news) (hLh : ∀ l ob, get H' l = some ob → (l ∈ L ∨ l ∈ news) ∧ ∀ l' ∈ ob.labs, l' ∈ L ∨ l' ∈ news) (hkeys : ∀ l ob, get H l = some ob → ∃ ob', get H' l = some ob')
  (hH' : ∀ l ob, get H' l = some ob → ∃ ob1, get st'.heap l = some ob1 ∧ ObImp P ob1 ob) (hy2 : VW P C1 w' u y) (himp : VImp P u v) : ∃ C', After P C w H news C' w' H' v y := by
 obtain ⟨w0, n', M, G', L', R, ρ0, D0, ro⟩ := X
 simp only at q0 q1 q3 q4 q5 q6
 subst q0 q1 q3 q4 q5 q6
 refine ⟨{ D := C1.D, ρ := fun l => if l ∈ news then C1.ρ l else C.ρ l, own := open Classical in fun b => if b < w0.heap.size ∧ ¬ I8 C H b then C.own b else match C1.own b with
  | some (.obj l p, k) => if (get H' l).isSome then some (.obj l p, k) else none
  | _ => none }, ?_⟩
 generalize hC' : ({ D := C1.D, ρ := fun l => if l ∈ news then C1.ρ l else C.ρ l, own := open Classical in fun b => if b < w0.heap.size ∧ ¬ I8 C H b then C.own b else match C1.own b with
  | some (.obj l p, k) => if (get H' l).isSome then some (.obj l p, k) else none
  | _ => none } : Cfg) = C'
 have dD : C'.D = C1.D := by rw [← hC']
 have dρ : ∀ l, l ∉ news → C'.ρ l = C.ρ l := fun l hl => by rw [← hC']; simp [hl]
 have dρ1 : ∀ l, (l ∈ L' ∨ l ∈ news) → C'.ρ l = C1.ρ l := fun l hl => by
  by_cases hm : l ∈ news
  ·rw [← hC']; simp [hm]
  ·rw [dρ l hm]
   exact (hs.kin.rho l (hl.resolve_right hm)).symm
 have down : ∀ b, b < w0.heap.size ∧ ¬ I8 C H b → C'.own b = C.own b := fun b hb => by rw [← hC']; simp only [if_pos hb]
 have down1 : ∀ b q k, C'.own b = some (q, k) → ¬ (b < w0.heap.size ∧ ¬ I8 C H b) → C1.own b = some (q, k) := fun b q k hb hn => by
  rw [← hC'] at hb
  simp only [if_neg hn] at hb
  split at hb
  ·rename_i l p k' he
   split at hb
   ·simp at hb
    obtain ⟨rfl, rfl⟩ := hb
    exact he
   ·simp at hb
  ·simp at hb
 have down2 : ∀ b l p k, C1.own b = some (.obj l p, k) → (∃ ob, get H' l = some ob) → C'.own b = some (.obj l p, k) := fun b l p k hb ⟨ob, ho⟩ => by
  have hn : ¬ (b < w0.heap.size ∧ ¬ I8 C H b) := fun ⟨h1, h2⟩ => by
   rcases (hs.own b _ k hb).1 with h3 | h3
   ·exact absurd h1 (Nat.not_lt.2 h3)
   ·exact h2 h3
  rw [← hC']
  simp only [if_neg hn, hb, ho, Option.isSome_some, if_true]
 have st1 : ∀ (ls : List Nat) (keep : Place → Prop), (∀ l ∈ ls, l ∈ L' ∨ l ∈ news) → (∀ q, keep q → ∃ l p ob, q = .obj l p ∧ get H' l = some ob) → Stays C1 C' w' w' ls keep := fun ls keep h1 h2 =>
  ⟨fun b o hD => ⟨by rw [dD]; exact hD, rfl⟩, fun l hl => dρ1 l (h1 l hl), fun b q k hb hq => by
   obtain ⟨l, p, ob, rfl, ho⟩ := h2 q hq
   exact ⟨down2 b l p k hb ⟨ob, ho⟩, rfl⟩, TyKeep.refl w'⟩
 refine ⟨hs.framed.os, hs.framed.tape, hs.framed.output, hs.framed.size, fun b hb hM => hs.framed.block b hb hM, hs.framed.ty, fun b o hD => hs.keep b o hD, dρ, fun b o hD => by rw [dD]; exact hs.kin.dOld b o hD, fun b o hD => hs.kin.dNew b o (by rw [dD] at hD; exact hD),
  fun b o hD => hs.dLt b o (by rw [dD] at hD; exact hD), fun b h1 h2 => down b ⟨h1, h2⟩, fun b q k hb => ?_, fun l ob hl => ?_, fun l l' b R R' ob ob' hl hl' e1 e2 => ?_, fun l ob b R o hl hρ hD => ?_, hkeys, (himp _ _ _ hy2).mono (st1 _ _ hLv fun q hq => hq.elim)⟩
 ·by_cases hc : b < w0.heap.size ∧ ¬ I8 C H b
  ·exact .inl hc
  ·obtain ⟨_, h2, h3, h4⟩ := hs.own b q k (down1 b q k hb hc)
   refine .inr ⟨h2, fun o hD => h3 o (by rw [dD] at hD; exact hD), fun l ob R hl hρ => ?_⟩
   obtain ⟨ob1, k1, _⟩ := hH' l ob hl
   rw [dρ1 l (hLh l ob hl).1] at hρ
   exact h4 l ob1 R k1 hρ
 ·obtain ⟨ob1, k1, k2, k3⟩ := hH' l ob hl
  obtain ⟨b, e1, e2, e3⟩ := hs.heap l ob1 k1
  refine ⟨b, by rw [dρ1 l (hLh l ob hl).1, ← k2]; exact e1, ?_, (k3 _ _ _ _ e3).mono (st1 _ _ (hLh l ob hl).2 fun q hq => ?_) rfl⟩
  ·rcases e2 with e2 | e2 | e2
   ·exfalso
    obtain ⟨q, hq, rfl⟩ := List.mem_map.1 e2
    obtain ⟨o', ho'⟩ := k8 (a := HR) (i := q.1) (List.mem_map.2 ⟨q, hq, rfl⟩)
    rw [hdis q.1 ob hl] at ho'
    cases ho'
   ·exact .inl e2
   ·exact .inr e2
  ·obtain ⟨r, lo, E, ps, rfl, _⟩ := hq
   exact ⟨l, r, ob, rfl, hl⟩
 ·obtain ⟨o1, k1, _⟩ := hH' l ob hl
  obtain ⟨o2, k2, _⟩ := hH' l' ob' hl'
  rw [dρ1 l (hLh l ob hl).1] at e1
  rw [dρ1 l' (hLh l' ob' hl').1] at e2
  exact hs.inj l l' b R R' o1 o2 k1 k2 e1 e2
 ·obtain ⟨o1, k1, _⟩ := hH' l ob hl
  rw [dρ1 l (hLh l ob hl).1] at hρ
  exact hs.dObj l o1 b R o k1 hρ (by rw [dD] at hD; exact hD)
theorem HCall.of_triX (hT : j3 P = true) {f : FuncId} {fn : Func} {c : Code} (hf : P.funcs[f]? = some fn) (hb : fn.body = some c) {args : List PV} {HR H H' : List (Nat × Ob)} {v : PV} {news L : List Nat} {n : Nat} (hn : n = args.length + (fn.ntmps - args.length))
  (hfree : ∀ l ob, get HR l = some ob → B1 ob = true) (hdis : ∀ l ob, get H' l = some ob → get HR l = none)
  (hLv : ∀ l ∈ v.labs, l ∈ L ∨ l ∈ news) (hLh : ∀ l ob, get H' l = some ob → (l ∈ L ∨ l ∈ news) ∧ ∀ l' ∈ ob.labs, l' ∈ L ∨ l' ∈ news) (hkeys : ∀ l ob, get H l = some ob → ∃ ob', get H' l = some ob')
  {C : Cfg} {w : World} {xs : Array Value} (h : ∀ X : Ctx, X.w0 = w → X.M = I8 C H → X.n = n → X.G = G → X.L = L → X.R = e9 HR → X.ro = none → X.ρ0 = C.ρ → X.D0 = C.D → Tri P X c ⟨L9 0 args, HR ++ H⟩ fun e st => (e = .normal ∨ e = .ret) ∧ ∃ st', Ghost P X st st' ∧ (∃ u, res P st' fn.results.toList = some u ∧ VImp P u v) ∧
   ∀ l ob, get H' l = some ob → ∃ ob1, get st'.heap l = some ob1 ∧ ObImp P ob1 ob) (F : Frag P G C w HR H) (hxs : VFs P C w args xs.toList) :
  Calls P f xs w fun e w' => ∃ y C', e = .returned y ∧ After P C w H news C' w' H' v y := by
 have hlen : xs.size = args.length := by
  rw [hxs.length]; simp
 let X : Ctx := { w0 := w, n := n, M := I8 C H, G := G, L := L, R := e9 HR, ρ0 := C.ρ, D0 := C.D }
 obtain ⟨C0, hsat⟩ : ∃ C0, SatC P X C0 ⟨L9 0 args, HR ++ H⟩ { tmps := xs ++ Array.replicate (fn.ntmps - xs.size) undef, defers := [] } w := by
  refine F.sat rfl rfl rfl rfl rfl rfl hfree (by simp [X, hn, hlen]) rfl fun i u hu => ?_
  obtain ⟨_, h2⟩ := am3 hu
  simp only [Nat.sub_zero] at h2
  obtain ⟨x, h3, h4, h5⟩ := hxs.at i u h2
  refine ⟨x, ?_, h4, h5⟩
  have hi : i < xs.size := by
   rw [hlen];exact (List.getElem?_eq_some_iff.1 h2).1
  rw [Array.getElem?_append_left hi, ← Array.getElem?_toList];exact h3
 refine callsIn_wide (n := 0) |>.1 (callsIn_of_wp_marks hf hb trivial (wpIn_mono (h X rfl rfl rfl rfl rfl rfl rfl rfl rfl C0 _ w hsat) fun e a' w' ⟨st1, C1', ⟨he, st', hgh, ⟨u, hu, himp⟩, hH'⟩, hs1⟩ => ?_) rfl)
 obtain ⟨C1, hs0⟩ := hgh C1' a' w' hs1
 suffices hS : ∀ w', SatC P X C1 st' { a' with defers := [] } w' → ∃ y, (results fn a'.tmps).run P w' = .ok y w' ∧ ∃ y' C', Ending.returned y = .returned y' ∧ After P C w H news C' w' H' v y' by
  have hL := V3 (R := fun e w' => ∃ y C', e = .returned y ∧ After P C w H news C' w' H' v y) _ rfl hs0 hS
  rcases he with rfl | rfl <;> exact hL
 clear hs0 hs1
 intro w' hs
 obtain ⟨y, hy1, hy2⟩ := bL3 hT hs hu
 obtain ⟨C', A⟩ : ∃ C', After P C w H news C' w' H' v y := hs.after rfl rfl rfl rfl rfl rfl hdis hLv hLh hkeys hH' hy2 himp
 exact ⟨y, hy1, y, C', rfl, A⟩
theorem HCall.of_triW (hT : j3 P = true) {f : FuncId} {fn : Func} {c : Code} (hf : P.funcs[f]? = some fn) (hb : fn.body = some c) {args : List PV} {HR H H' : List (Nat × Ob)} {v : PV} {news L : List Nat} {n : Nat} (hn : n = args.length + (fn.ntmps - args.length))
  (hfree : ∀ l ob, get HR l = some ob → B1 ob = true) (hdis : ∀ l ob, get H' l = some ob → get HR l = none)
  (hLv : ∀ l ∈ v.labs, l ∈ L ∨ l ∈ news) (hLh : ∀ l ob, get H' l = some ob → (l ∈ L ∨ l ∈ news) ∧ ∀ l' ∈ ob.labs, l' ∈ L ∨ l' ∈ news) (hkeys : ∀ l ob, get H l = some ob → ∃ ob', get H' l = some ob')
  {C : Cfg} {w : World} {xs : Array Value} (h : ∀ X : Ctx, X.w0 = w → X.M = I8 C H → X.n = n → X.G = G → X.L = L → X.R = e9 HR → X.ro = none → Tri P X c ⟨L9 0 args, HR ++ H⟩ fun e st => (e = .normal ∨ e = .ret) ∧ ∃ st', Ghost P X st st' ∧ (∃ u, res P st' fn.results.toList = some u ∧ VImp P u v) ∧
   ∀ l ob, get H' l = some ob → ∃ ob1, get st'.heap l = some ob1 ∧ ObImp P ob1 ob) (F : Frag P G C w HR H) (hxs : VFs P C w args xs.toList) :
  Calls P f xs w fun e w' => ∃ y C', e = .returned y ∧ After P C w H news C' w' H' v y :=
 HCall.of_triX hT hf hb hn hfree hdis hLv hLh hkeys (fun X h1 h2 h3 h4 h5 h6 h7 _ _ => h X h1 h2 h3 h4 h5 h6 h7) F hxs
theorem HCall.of_tri (hT : j3 P = true) {f : FuncId} {fn : Func} {c : Code} (hf : P.funcs[f]? = some fn) (hb : fn.body = some c) {args : List PV} {HR H H' : List (Nat × Ob)} {v : PV} {news L : List Nat} {n : Nat} (hn : n = args.length + (fn.ntmps - args.length))
  (hfree : ∀ l ob, get HR l = some ob → B1 ob = true) (hdis : ∀ l ob, get H' l = some ob → get HR l = none)
  (hLv : ∀ l ∈ v.labs, l ∈ L ∨ l ∈ news) (hLh : ∀ l ob, get H' l = some ob → (l ∈ L ∨ l ∈ news) ∧ ∀ l' ∈ ob.labs, l' ∈ L ∨ l' ∈ news) (hkeys : ∀ l ob, get H l = some ob → ∃ ob', get H' l = some ob')
  (h : ∀ X : Ctx, X.n = n → X.G = G → X.L = L → X.R = e9 HR → X.ro = none → Tri P X c ⟨L9 0 args, HR ++ H⟩ fun e st => (e = .normal ∨ e = .ret) ∧ ∃ st', Ghost P X st st' ∧ (∃ u, res P st' fn.results.toList = some u ∧ VImp P u v) ∧
   ∀ l ob, get H' l = some ob → ∃ ob1, get st'.heap l = some ob1 ∧ ObImp P ob1 ob) : HCall P G f args HR H v H' news :=
 fun _ _ _ F hxs => HCall.of_triW hT hf hb hn hfree hdis hLv hLh hkeys (fun X _ _ => h X) F hxs
end
section
variable {P : Program}
def bl2 {α β : Type} (f : α → Option β) : List α → Option (List β)
 | [] => some []
 | a :: as => match f a, bl2 f as with
  | some b, some bs => some (b :: bs)
  | _, _ => none
def aW6 (P : Program) : Nat → TypeId → Option PV
 | 0, _ => none
 | n + 1, T => match P.underlying T with
  | some (.struct fs) => (bl2 (aW6 P n) (fs.toList.map (·.type))).map (Q2 T)
  | some (.array k e) => (aW6 P n e).map fun v => Q2 T (List.replicate k v)
  | some (.slice _) => some .nilc
  | some _ => match P.info? T with
   | some i => match i.zero with
    | some z => if am5 z then some (.pu (.leaf z)) else none
    | none => none
   | none => none
  | none => none
def bU7 (P : Program) (T : TypeId) : Option PV := match aW6 P 9 T with
 | some v => if aF0 P T v then some v else none
 | none => none
def Seat.auto (G : List (Nat × TypeId × Pu)) (hT : j3 P = true) : Seat P where
 G := G
 Z := bU7 P
 hT := hT
 hZ T v h := by
  unfold bU7 at h
  split at h
  ·split at h
   ·simp at h
    subst h
    assumption
   ·simp at h
  ·simp at h
theorem al6 {l : Nat} {v : PV} (h : v.labs = []) : l ∉ v.labs := by rw [h]; simp
theorem FCall.of_tri {G : List (Nat × TypeId × Pu)} (hT : j3 P = true) {f : FuncId} {fn : Func} {c : Code} (n : Nat) (hf : P.funcs[f]? = some fn) (hb : fn.body = some c) {args : List PV} {v : PV} (hn : n = args.length + (fn.ntmps - args.length)) (hv : v.labs = [])
  (h : ∀ w0 M ρ0 D0, Tri P ⟨w0, n, M, G, [], [], ρ0, D0, none⟩ c ⟨L9 0 args, []⟩ fun e st => (e = .normal ∨ e = .ret) ∧ ∃ u, res P st fn.results.toList = some u ∧ VImp P u v) : FCall P G f args v := by
 refine HCall.of_tri hT hf hb (L := []) (n := n) hn (fun l ob h => by cases h) (fun l ob h => by cases h) (fun l hl => absurd hl (al6 hv)) (fun l ob h => by cases h) (fun l ob h => by cases h) ?_
 rintro ⟨w0, n', M, G', L, R, ρ0, D0, ro⟩ hn hG hL hR hro
 simp only at hn hG hL hR hro
 subst hn hG hL hR;subst hro
 exact (h w0 M ρ0 D0).mono fun e st ⟨he, u, hu, hi⟩ => ⟨he, st, Ghost.refl _, ⟨u, hu, hi⟩, fun l ob h => by cases h⟩
end
section
variable {P : Program} {lo : Nat} {X : Ctx} {ops : Array Oper} {st : St} {env : List (Nat × PV)} {heap : List (Nat × Ob)}
class Okt (P : Program) (s t : TypeId) : Prop where ok : okT P s t = true
def bE9 (P : Program) (T f : Nat) (t : TypeId) : Bool := decide (T < P.types.size) && match P.underlying T with
 | some (.struct fs) => match fs[f]? with
  | some fd => fd.type == t && P.cellsOf fd.type != 0
  | none => false
 | _ => false
class Fld (P : Program) (T f : Nat) (t : outParam TypeId) : Prop where ok : bE9 P T f t = true
def be8 (P : Program) (t E : TypeId) : Bool := decide (t < P.types.size) && match P.underlying t with
 | some (.slice E') => E' == E
 | _ => false
class Sl (P : Program) (t : TypeId) (E : outParam TypeId) : Prop where ok : be8 P t E = true
def bT4 (P : Program) (T : TypeId) : Bool := decide (T < P.types.size) && (f7 P T).isNone && P.cellsOf T == 1
class Sc (P : Program) (T : TypeId) : Prop where ok : bT4 P T = true
def bU8 (P : Program) (T : TypeId) : Bool := (f7 P T).isSome
class Ag (P : Program) (T : TypeId) : Prop where ok : bU8 P T = true
def bU3 (P : Program) (t E : TypeId) (B : Nat) : Bool := be8 P t E && P.bytesOf E == B && B != 0 && match P.info? E with
 | some i => match i.zero with
  | some z => z.cells.size == i.size
  | none => false
 | none => false
class El (P : Program) (t : TypeId) (E : outParam TypeId) (B : outParam Nat) : Prop where ok : bU3 P t E B = true
theorem Fld.spec {T f : Nat} {t : TypeId} (h : Fld P T f t) : T < P.types.size ∧ ∃ fs fd, P.underlying T = some (.struct fs) ∧ fs[f]? = some fd ∧ fd.type = t ∧ P.cellsOf t ≠ 0 ∧ H0 P T f = some (P.cellsOf t, t) := by
 have := h.ok
 unfold bE9 at this
 simp only [Bool.and_eq_true, decide_eq_true_eq] at this
 obtain ⟨hlt, h2⟩ := this
 split at h2
 ·rename_i fs hu
  split at h2
  ·rename_i fd hf
   simp only [Bool.and_eq_true, beq_iff_eq, bne_iff_ne, ne_eq] at h2
   obtain ⟨rfl, h3⟩ := h2
   refine ⟨hlt, fs, fd, hu, hf, rfl, h3, ?_⟩
   unfold H0
   rw [L3 hlt hu]
   simp [hf]
  ·simp at h2
 ·simp at h2
theorem Sl.spec {t E : TypeId} (h : Sl P t E) : t < P.types.size ∧ P.underlying t = some (.slice E) := by
 have := h.ok
 unfold be8 at this
 simp only [Bool.and_eq_true, decide_eq_true_eq] at this
 obtain ⟨hlt, h2⟩ := this
 split at h2
 ·rename_i E' hu
  simp at h2
  subst h2;exact ⟨hlt, hu⟩
 ·simp at h2
theorem Sc.spec {T : TypeId} (h : Sc P T) : T < P.types.size ∧ (f7 P T).isNone = true ∧ P.cellsOf T = 1 := by
 have := h.ok
 unfold bT4 at this
 simp only [Bool.and_eq_true, decide_eq_true_eq, beq_iff_eq] at this
 exact ⟨this.1.1, this.1.2, this.2⟩
theorem El.spec {t E : TypeId} {B : Nat} (h : El P t E B) : ElemOk P t E ∧ P.bytesOf E = B := by
 have := h.ok
 unfold bU3 be8 at this
 simp only [Bool.and_eq_true, decide_eq_true_eq, beq_iff_eq, bne_iff_ne, ne_eq] at this
 obtain ⟨⟨⟨⟨h1, h2⟩, h3⟩, h4⟩, h5⟩ := this
 split at h2
 ·rename_i E' hu
  simp at h2
  subst h2
  refine ⟨⟨hu, by rw [h3]; exact h4, ?_⟩, h3⟩
  split at h5
  ·rename_i i hi
   split at h5
   ·rename_i z hz
    exact ⟨i, z, hi, hz, by simpa using h5⟩
   ·simp at h5
  ·simp at h5
 ·simp at h2
mutual
inductive Str : PV → PV → Prop
 | pu {p : Pu} : Str (.pu p) (.pu p)
 | ptr {l : Nat} {p : List Nat} {T : TypeId} : Str (.ptr l p T) (.ptr l p T)
 | pp {T : TypeId} {v : PV} : Str (.pp T v) (.pp T v)
 | arr {l E o n : Nat} : Str (.arr l E o n) (.arr l E o n)
 | mp {l K V : Nat} : Str (.mp l K V) (.mp l K V)
 | nilc : Str .nilc .nilc
 | xs {lo : Nat} {E : TypeId} {ps : List Pu} : Str (.xs lo E ps) (.xs lo E ps)
 | ow {lo : Nat} {E : TypeId} {ps : List Pu} : Str (.ow lo E ps) (.pu (.sl lo E ps))
 | hd {E : TypeId} {n : Nat} : Str (.hd E n) (.hd E n)
 | fl {E : TypeId} {ps : List Pu} : Str (.fl E ps) (.hd E ps.length)
 | fn {f : Fn} {a b : List PV} : Str (.fn f a b) (.fn f a b)
 | tup {vs : List PV} : Str (.tup vs) (.tup vs)
 | agg {T : TypeId} {vs us : List PV} (h : StrL vs us) : Str (.agg T vs) (.agg T us)
inductive StrL : List PV → List PV → Prop
 | nil : StrL [] []
 | cons {v u : PV} {vs us : List PV} (h : Str v u) (t : StrL vs us) : StrL (v :: vs) (u :: us)
end
mutual
theorem Str.eq : ∀ {r v : PV}, Str r v → strip r = v
 | _, _, .pu => rfl
 | _, _, .ptr => rfl
 | _, _, .pp => rfl
 | _, _, .arr => rfl
 | _, _, .mp => rfl
 | _, _, .nilc => rfl
 | _, _, .xs => rfl
 | _, _, .ow => rfl
 | _, _, .hd => rfl
 | _, _, .fl => rfl
 | _, _, .fn => rfl
 | _, _, .tup => rfl
 | _, _, .agg h => by simp [strip, StrL.eq h]
theorem StrL.eq : ∀ {r v : List PV}, StrL r v → as5 r = v
 | _, _, .nil => rfl
 | _, _, .cons h t => by simp [as5, Str.eq h, StrL.eq t]
end
def Ev (X : Ctx) (env : List (Nat × PV)) (g : Bool) (x : Operand) (v : PV) : Prop := g = true → ∃ r, b9 X.G env x = some r ∧ strip r = v
theorem Ev.mk {g : Bool} {x : Operand} {r v : PV} (h : b9 X.G env x = some r) (s : Str r v) : Ev X env g x v := fun _ => ⟨r, h, s.eq⟩
theorem Ev.gd {g : Bool} {x : Operand} {r v : PV} (h : b9 X.G env x = some (Hs.gd g r)) (s : Str r v) : Ev X env g x v := fun hg => ⟨_, h, by rw [hg]; exact s.eq⟩
theorem Ev.left {b c : Bool} {x : Operand} {r v : PV} (h : b9 X.G env x = some (Hs.gd b r)) (s : Str r v) : Ev X env (b && c) x v := fun hg => ⟨_, h, by
 rw [Bool.and_eq_true] at hg
 rw [hg.1]; exact s.eq⟩
theorem Ev.left2 {b c d : Bool} {x : Operand} {r v : PV} (h : b9 X.G env x = some (Hs.gd b r)) (s : Str r v) : Ev X env (b && c && d) x v := fun hg => ⟨_, h, by
 rw [Bool.and_eq_true, Bool.and_eq_true] at hg
 rw [hg.1.1]; exact s.eq⟩
inductive EvL (X : Ctx) (env : List (Nat × PV)) (g : Bool) : List Operand → List PV → Prop
 | nil : EvL X env g [] []
 | cons {x : Operand} {v : PV} {xs : List Operand} {vs : List PV} (h : Ev X env g x v) (t : EvL X env g xs vs) : EvL X env g (x :: xs) (v :: vs)
theorem EvL.raw {g : Bool} {xs : List Operand} {vs : List PV} (h : EvL X env g xs vs) (hg : g = true) : ∃ raw, evalL X.G env xs = some raw ∧ raw.map strip = vs := by
 induction h with
 | nil => exact ⟨[], rfl, rfl⟩
 | cons h _ ih =>
  obtain ⟨r, h1, h2⟩ := h hg
  obtain ⟨raw, h3, h4⟩ := ih
  exact ⟨r :: raw, by simp [evalL, h1, h3], by simp [h2, h4]⟩
structure ValG (P : Program) (X : Ctx) (st : St) (op : Op) (g : Bool) (u : PV) (f : FP) : Prop where
 exec : g = true → ∀ st', Agree f st st' → ∀ C a w, SatC P X C st' a w → ∀ o : Oper, o.op = op → C5 X.n o.dst = true → Exec P X C st' o a w { v := u }
theorem ValG.pure (S : Seat P) {op : Op} {g : Bool} {vs : List PV} {u : PV} (h : EvL X st.env g op.operands.toList vs) (hp : y7 P S op vs = some u) : ValG P X st op g u { reads := c9 op.operands.toList } := ⟨fun hg st' ha C a w hs o ho hd => by
 obtain ⟨raw, h1, h2⟩ := h.raw hg
 subst ho
 have h1' : evalL X.G st'.env o.op.operands.toList = some raw := by
  rw [u6 (env := st.env) fun t ht => ha.env t ht];exact h1
 exact (aE0 S hs h1' (by rw [h2]; exact hp) hd).noSrc⟩
theorem aP2 {R : List Nat} {l : Nat} (h : R.contains l = false) : l ∉ R := by simpa using h
def lb (d n : Nat) : Bool := Nat.ble (d + 1) n
theorem F6 {d n : Nat} (h : lb d n = true) : d < n := Nat.le_of_ble_eq_true h
variable {dr : Bool} {s0 : St} {K : St → Prop} {dn : List Item} {rest : List Oper} {d : Nat} {ty : TypeId} {pos : String} {after : Array Edge}
theorem bw7 {op : Op} {u : PV} {r hr : List Nat} (hd : lb d X.n = true) (h : ValG P X ⟨env, heap⟩ op true u { reads := r, hreads := hr })
  (t : WalkR P X ops dr s0 K (dn ++ [⟨⟨some d, op, ty, pos, after, none⟩, { v := u }, { reads := r, hreads := hr, labs := u.labs }⟩]) ⟨(d, u) :: env, heap⟩ rest) : WalkR P X ops dr s0 K dn ⟨env, heap⟩ (⟨some d, op, ty, pos, after, none⟩ :: rest) := by
 refine WalkR.cons ⟨fun l hl => by simpa using hl, fun L hL => by simp at hL, fun st' ha _ C a w hs _ => ?_⟩ t;exact .of ((Guard.none rfl).wanted hs) (h.exec rfl st' ⟨ha.env, ha.heap⟩ C a w hs _ rfl (by simp [C5, F6 hd]))
theorem bm9 {op : Op} {u : PV} {j : Nat} {want g : Bool} {r hr : List Nat} (hd : lb d X.n = true) (hg : Guard ops ⟨env, heap⟩ ⟨some d, op, ty, pos, after, some (j, want)⟩ g) (h : ValG P X ⟨env, heap⟩ op g u { reads := r, hreads := hr })
  (t : WalkR P X ops dr s0 K (dn ++ [⟨⟨some d, op, ty, pos, after, some (j, want)⟩, { v := gd g u }, { reads := I5 ops ⟨some d, op, ty, pos, after, some (j, want)⟩ ++ r, hreads := hr, labs := u.labs }⟩]) ⟨(d, gd g u) :: env, heap⟩ rest) :
  WalkR P X ops dr s0 K dn ⟨env, heap⟩ (⟨some d, op, ty, pos, after, some (j, want)⟩ :: rest) := by
 have hdo : C5 X.n (some d) = true := by simp [C5, F6 hd]
 refine WalkR.cons ⟨fun l hl => aI1 (b := g) (by simpa using hl), fun L hL => by simp at hL, fun st' ha _ C a w hs _ => ?_⟩ t
 refine .guarded hs (hg.congr (ae0 ha fun t ht => by simp [ht])) hdo fun e => ?_
 exact h.exec e st' ⟨fun t ht => ha.env t (by simp [ht]), ha.heap⟩ C a w hs _ rfl hdo
theorem Guard.T {st : St} {o : Oper} {j d : Nat} {c : Bool} (h : o.guard = some (j, true)) (hd : (ops[j]?).bind (·.dst) = some d) (hb : get st.env d = some (bv c)) : Guard ops st o c := by
 have := Guard.bool h hd hb
 simpa using this
theorem Guard.F {st : St} {o : Oper} {j d : Nat} {c : Bool} (h : o.guard = some (j, false)) (hd : (ops[j]?).bind (·.dst) = some d) (hb : get st.env d = some (bv c)) : Guard ops st o (!c) := by
 have := Guard.bool h hd hb
 cases c <;> simpa using this
theorem Guard.gT {st : St} {o : Oper} {j d : Nat} {b c : Bool} (h : o.guard = some (j, true)) (hd : (ops[j]?).bind (·.dst) = some d) (hb : get st.env d = some (Hs.gd b (bv c))) : Guard ops st o (b && c) := by
 have := Guard.gd h hd hb
 simpa using this
theorem Guard.gF {st : St} {o : Oper} {j d : Nat} {b c : Bool} (h : o.guard = some (j, false)) (hd : (ops[j]?).bind (·.dst) = some d) (hb : get st.env d = some (Hs.gd b (bv c))) : Guard ops st o (b && !c) := by
 have := Guard.gd h hd hb
 cases c <;> simpa using this
variable {g : Bool}
theorem I9 {x : Operand} {v : PV} (S : Seat P) (h : Ev X st.env g x v := by first | (focus (apply Ev.mk; exact rfl; (repeat constructor); done)) | (focus (apply Ev.gd; exact rfl; (repeat constructor); done)) | (focus (apply Ev.left; exact rfl; (repeat constructor); done)) | (focus (apply Ev.left2; exact rfl; (repeat constructor); done))) : ValG P X st (.move x) g v { reads := c9 [x] } := ValG.pure S (.cons h .nil) rfl
theorem aL2 {x : Operand} {v : PV} (S : Seat P) (h : Ev X st.env g x v := by first | (focus (apply Ev.mk; exact rfl; (repeat constructor); done)) | (focus (apply Ev.gd; exact rfl; (repeat constructor); done)) | (focus (apply Ev.left; exact rfl; (repeat constructor); done)) | (focus (apply Ev.left2; exact rfl; (repeat constructor); done))) : ValG P X st (.assign x) g v { reads := c9 [x] } := ValG.pure S (.cons h .nil) rfl
theorem be3 {x : Operand} {l f : Nat} {p : List Nat} {T T' t : TypeId} (S : Seat P) [hF : Fld P T f t] [hO : Okt P T T'] (h : Ev X st.env g x (.ptr l p T') := by first | (focus (apply Ev.mk; exact rfl; (repeat constructor); done)) | (focus (apply Ev.gd; exact rfl; (repeat constructor); done)) | (focus (apply Ev.left; exact rfl; (repeat constructor); done)) | (focus (apply Ev.left2; exact rfl; (repeat constructor); done))) : ValG P X st (.fieldAddr T x f) g (.ptr l (p ++ [f]) t) { reads := c9 [x] } :=
 ValG.pure S (.cons h .nil) (by
  obtain ⟨_, fs, fd, h2, h3, h4, h5, h6⟩ := hF.spec
  subst h4
  have hT' : H0 P T' f = some (P.cellsOf fd.type, fd.type) := by
   unfold H0 at *
   rw [← (v9 hO.ok).1];exact h6
  simp [y7, aq8, h2, h3, h5, ab4, hO.ok, hT'])
theorem aL1 {x : Operand} {f : Nat} {v u : PV} {T T' t : TypeId} (S : Seat P) [hF : Fld P T f t] [hO : Okt P T T'] (h : Ev X st.env g x (.pp T' v) := by first | (focus (apply Ev.mk; exact rfl; (repeat constructor); done)) | (focus (apply Ev.gd; exact rfl; (repeat constructor); done)) | (focus (apply Ev.left; exact rfl; (repeat constructor); done)) | (focus (apply Ev.left2; exact rfl; (repeat constructor); done))) (hg : D9 v [f] = some u := by rfl) : ValG P X st (.fieldAddr T x f) g (.pp t u) { reads := c9 [x] } :=
 ValG.pure S (.cons h .nil) (by
  obtain ⟨_, fs, fd, h2, h3, h4, h5, h6⟩ := hF.spec
  subst h4
  have hT' : H0 P T' f = some (P.cellsOf fd.type, fd.type) := by
   unfold H0 at *
   rw [← (v9 hO.ok).1];exact h6
  simp [y7, aq8, h2, h3, h5, ab4, hO.ok, hT', hg])
theorem aX2 {x : Operand} {f : Nat} {v u : PV} {T t : TypeId} (S : Seat P) [hF : Fld P T f t] (h : Ev X st.env g x v := by first | (focus (apply Ev.mk; exact rfl; (repeat constructor); done)) | (focus (apply Ev.gd; exact rfl; (repeat constructor); done)) | (focus (apply Ev.left; exact rfl; (repeat constructor); done)) | (focus (apply Ev.left2; exact rfl; (repeat constructor); done))) (ht : tyV P T v = true) (hg : D9 v [f] = some u := by rfl) : ValG P X st (.field T x f) g u { reads := c9 [x] } :=
 ValG.pure S (.cons h .nil) (by
  obtain ⟨h1, fs, fd, h2, h3, h4, h5, h6⟩ := hF.spec
  simp [y7, ai9, h1, h2, ht, hg])
theorem U0 {x : Operand} {T T' : TypeId} {v : PV} (S : Seat P) [hO : Okt P T T'] (h : Ev X st.env g x (.pp T' v) := by first | (focus (apply Ev.mk; exact rfl; (repeat constructor); done)) | (focus (apply Ev.gd; exact rfl; (repeat constructor); done)) | (focus (apply Ev.left; exact rfl; (repeat constructor); done)) | (focus (apply Ev.left2; exact rfl; (repeat constructor); done))) : ValG P X st (.load T x) g v { reads := c9 [x] } :=
 ValG.pure S (.cons h .nil) (by simp [y7, hO.ok])
theorem aW9 {x : Operand} {T T' : TypeId} {l : Nat} {p : List Nat} {ob : Ob} {r u : PV} (S : Seat P) [hO : Okt P T T'] (h : Ev X st.env g x (.ptr l p T') := by first | (focus (apply Ev.mk; exact rfl; (repeat constructor); done)) | (focus (apply Ev.gd; exact rfl; (repeat constructor); done)) | (focus (apply Ev.left; exact rfl; (repeat constructor); done)) | (focus (apply Ev.left2; exact rfl; (repeat constructor); done))) (hl : get st.heap l = some ob := by rfl) (hget : ob.get p = some r := by rfl) (hs : Str r u := by repeat constructor) : ValG P X st (.load T x) g u { reads := c9 [x], hreads := [l] } :=
 ⟨fun hg st' ha C a w hs' o ho hd => by
  obtain ⟨q, h1, h2⟩ := h hg
  have hq : q = .ptr l p T' := by
   cases q <;> simp [strip] at h2
   obtain ⟨rfl, rfl, rfl⟩ := h2
   rfl
  subst hq
  have h1' : b9 X.G st'.env x = some (.ptr l p T') := by
   rw [d5 (env := st.env) fun t e => ha.env t (f0 (by rw [e]; simp))];exact h1
  rw [← hs.eq]
  exact (aE1 S hs' ho h1' hO.ok ((ha.heap l (by simp)).trans hl) hget hd).noSrc⟩
theorem j6 {x y : Operand} {t E : TypeId} {ps : List Pu} {k : IntKind} {i : Int} {p : Pu} (S : Seat P) [hS : Sl P t E] (h : Ev X st.env g x (.pu (.sl lo E ps)) := by first | (focus (apply Ev.mk; exact rfl; (repeat constructor); done)) | (focus (apply Ev.gd; exact rfl; (repeat constructor); done)) | (focus (apply Ev.left; exact rfl; (repeat constructor); done)) | (focus (apply Ev.left2; exact rfl; (repeat constructor); done))) (hi : Ev X st.env g y (iv k i) := by first | (focus (apply Ev.mk; exact rfl; (repeat constructor); done)) | (focus (apply Ev.gd; exact rfl; (repeat constructor); done)) | (focus (apply Ev.left; exact rfl; (repeat constructor); done)) | (focus (apply Ev.left2; exact rfl; (repeat constructor); done))) (h0 : 0 ≤ i) (hp : ps[i.toNat]? = some p) :
  ValG P X st (.indexAddr t x y) g (.pp E (.pu p)) { reads := c9 [x, y] } :=
 ValG.pure S (.cons h (.cons hi .nil)) (by
  obtain ⟨h1, h2⟩ := hS.spec
  simp [y7, ad1, h1, h2, J7, h0, hp])
theorem aL0 {x y : Operand} {t E : TypeId} {ps : List Pu} {k : IntKind} {i : Int} {p : Pu} (S : Seat P) [hS : Sl P t E] (h : Ev X st.env g x (.xs lo E ps) := by first | (focus (apply Ev.mk; exact rfl; (repeat constructor); done)) | (focus (apply Ev.gd; exact rfl; (repeat constructor); done)) | (focus (apply Ev.left; exact rfl; (repeat constructor); done)) | (focus (apply Ev.left2; exact rfl; (repeat constructor); done))) (hi : Ev X st.env g y (iv k i) := by first | (focus (apply Ev.mk; exact rfl; (repeat constructor); done)) | (focus (apply Ev.gd; exact rfl; (repeat constructor); done)) | (focus (apply Ev.left; exact rfl; (repeat constructor); done)) | (focus (apply Ev.left2; exact rfl; (repeat constructor); done))) (h0 : 0 ≤ i) (hp : ps[i.toNat]? = some p) :
  ValG P X st (.indexAddr t x y) g (.pp E (.pu p)) { reads := c9 [x, y] } :=
 ValG.pure S (.cons h (.cons hi .nil)) (by
  obtain ⟨h1, h2⟩ := hS.spec
  simp [y7, ad1, h1, h2, J7, h0, hp])
theorem z7 {x y : Operand} {op : BinOp} {T ty : TypeId} {a b u : PV} (S : Seat P) (hx : Ev X st.env g x a := by first | (focus (apply Ev.mk; exact rfl; (repeat constructor); done)) | (focus (apply Ev.gd; exact rfl; (repeat constructor); done)) | (focus (apply Ev.left; exact rfl; (repeat constructor); done)) | (focus (apply Ev.left2; exact rfl; (repeat constructor); done))) (hy : Ev X st.env g y b := by first | (focus (apply Ev.mk; exact rfl; (repeat constructor); done)) | (focus (apply Ev.gd; exact rfl; (repeat constructor); done)) | (focus (apply Ev.left; exact rfl; (repeat constructor); done)) | (focus (apply Ev.left2; exact rfl; (repeat constructor); done))) (h : R9 P op T a b = some u) : ValG P X st (.binOp op T x y ty) g u { reads := c9 [x, y] } :=
 ValG.pure S (.cons hx (.cons hy .nil)) (by simp [y7, h])
theorem be2 {x y : Operand} {op : BinOp} {T ty : TypeId} {k : IntKind} {a b : Int} {u : PV} (S : Seat P) (hx : Ev X st.env g x (iv k a) := by first | (focus (apply Ev.mk; exact rfl; (repeat constructor); done)) | (focus (apply Ev.gd; exact rfl; (repeat constructor); done)) | (focus (apply Ev.left; exact rfl; (repeat constructor); done)) | (focus (apply Ev.left2; exact rfl; (repeat constructor); done))) (hy : Ev X st.env g y (iv k b) := by first | (focus (apply Ev.mk; exact rfl; (repeat constructor); done)) | (focus (apply Ev.gd; exact rfl; (repeat constructor); done)) | (focus (apply Ev.left; exact rfl; (repeat constructor); done)) | (focus (apply Ev.left2; exact rfl; (repeat constructor); done))) (hop : op ≠ .shl ∧ op ≠ .shr := by decide) (h : aw9 op k a b = some u := by rfl) : ValG P X st (.binOp op T x y ty) g u { reads := c9 [x, y] } :=
 z7 S hx hy (by
  obtain ⟨h1, h2⟩ := hop
  cases op <;> simp_all [R9, iv])
theorem bS9 {x : Operand} {T : TypeId} {b : Bool} (S : Seat P) (hx : Ev X st.env g x (bv b) := by first | (focus (apply Ev.mk; exact rfl; (repeat constructor); done)) | (focus (apply Ev.gd; exact rfl; (repeat constructor); done)) | (focus (apply Ev.left; exact rfl; (repeat constructor); done)) | (focus (apply Ev.left2; exact rfl; (repeat constructor); done))) : ValG P X st (.unOp .not T x) g (bv (!b)) { reads := c9 [x] } :=
 ValG.pure S (.cons hx .nil) rfl
theorem bT0 {x : Operand} {t E : TypeId} {ps : List Pu} (S : Seat P) [hS : Sl P t E] (hx : Ev X st.env g x (.pu (.sl lo E ps)) := by first | (focus (apply Ev.mk; exact rfl; (repeat constructor); done)) | (focus (apply Ev.gd; exact rfl; (repeat constructor); done)) | (focus (apply Ev.left; exact rfl; (repeat constructor); done)) | (focus (apply Ev.left2; exact rfl; (repeat constructor); done))) : ValG P X st (.call ⟨.builtin .len, #[x], #[t]⟩) g (iv .i64 ps.length) { reads := c9 [x] } :=
 ValG.pure S (.cons hx .nil) (by simp [y7, aQ6, hS.spec.2])
theorem bu6 {x : Operand} {t E : TypeId} {ps : List Pu} (S : Seat P) [hS : Sl P t E] (hx : Ev X st.env g x (.xs lo E ps) := by first | (focus (apply Ev.mk; exact rfl; (repeat constructor); done)) | (focus (apply Ev.gd; exact rfl; (repeat constructor); done)) | (focus (apply Ev.left; exact rfl; (repeat constructor); done)) | (focus (apply Ev.left2; exact rfl; (repeat constructor); done))) : ValG P X st (.call ⟨.builtin .len, #[x], #[t]⟩) g (iv .i64 ps.length) { reads := c9 [x] } :=
 ValG.pure S (.cons hx .nil) (by simp [y7, aQ6, hS.spec.2])
theorem bu8 {x : Operand} {t E : TypeId} (S : Seat P) [hS : Sl P t E] (hx : Ev X st.env g x .nilc := by first | (focus (apply Ev.mk; exact rfl; (repeat constructor); done)) | (focus (apply Ev.gd; exact rfl; (repeat constructor); done)) | (focus (apply Ev.left; exact rfl; (repeat constructor); done)) | (focus (apply Ev.left2; exact rfl; (repeat constructor); done))) : ValG P X st (.call ⟨.builtin .len, #[x], #[t]⟩) g (iv .i64 0) { reads := c9 [x] } :=
 ValG.pure S (.cons hx .nil) (by simp [y7, aQ6, hS.spec.2])
theorem bm4 {x : Operand} {i : Nat} {vs : List PV} {u : PV} (S : Seat P) (hx : Ev X st.env g x (.tup vs) := by first | (focus (apply Ev.mk; exact rfl; (repeat constructor); done)) | (focus (apply Ev.gd; exact rfl; (repeat constructor); done)) | (focus (apply Ev.left; exact rfl; (repeat constructor); done)) | (focus (apply Ev.left2; exact rfl; (repeat constructor); done))) (h : vs[i]? = some u := by rfl) : ValG P X st (.extract x i) g u { reads := c9 [x] } :=
 ValG.pure S (.cons hx .nil) (by simp [y7, h])
theorem T8 {x : Operand} {l : Nat} {p : List Nat} {T : TypeId} (S : Seat P) (hx : Ev X st.env g x (.ptr l p T) := by first | (focus (apply Ev.mk; exact rfl; (repeat constructor); done)) | (focus (apply Ev.gd; exact rfl; (repeat constructor); done)) | (focus (apply Ev.left; exact rfl; (repeat constructor); done)) | (focus (apply Ev.left2; exact rfl; (repeat constructor); done))) : ValG P X st (.nilCheck x) g (.ptr l p T) { reads := c9 [x] } :=
 ValG.pure S (.cons hx .nil) rfl
theorem aF2 {T : TypeId} {parts : Array (Nat × Operand)} {vs : List PV} {u : PV} (S : Seat P) (h : EvL X st.env g (parts.toList.map (·.2)) vs) (hn : vs.any j1 = false) (hb : ag3 P S T ((parts.toList.map (·.1)).zip vs) = some u) :
  ValG P X st (.build T parts) g u { reads := c9 (parts.toList.map (·.2)) } :=
 ValG.pure S (op := .build T parts) (vs := vs) (u := u) h (by simp only [y7, hn, Bool.false_eq_true, if_false]; exact hb)
theorem bT1 {c x : Operand} {a b : Bool} (S : Seat P) (hc : b9 X.G st.env c = some (bv a) := by rfl) (hx : b9 X.G st.env x = some (gd a (bv b)) := by rfl) : ValG P X st (.pick c x (.const (.bool false))) true (bv (a && b)) { reads := c9 [c, x, .const (.bool false)] } := by
 cases a with
 | true => exact ValG.pure S (vs := [bv true, bv b, bv false]) (.cons (.mk hc .pu) (.cons (.mk hx .pu) (.cons (.mk rfl .pu) .nil))) rfl
 | false => exact ValG.pure S (vs := [bv false, .tup [], bv false]) (.cons (.mk hc .pu) (.cons (.mk hx .tup) (.cons (.mk rfl .pu) .nil))) rfl
theorem cc0 {c x : Operand} {a b : Bool} (S : Seat P) (hc : b9 X.G st.env c = some (bv a) := by rfl) (hx : b9 X.G st.env x = some (gd (!a) (bv b)) := by rfl) : ValG P X st (.pick c (.const (.bool true)) x) true (bv (a || b)) { reads := c9 [c, .const (.bool true), x] } := by
 cases a with
 | true => exact ValG.pure S (vs := [bv true, bv true, .tup []]) (.cons (.mk hc .pu) (.cons (.mk rfl .pu) (.cons (.mk hx .tup) .nil))) rfl
 | false => exact ValG.pure S (vs := [bv false, bv true, bv b]) (.cons (.mk hc .pu) (.cons (.mk rfl .pu) (.cons (.mk hx .pu) .nil))) rfl
theorem bV9 {c x : Operand} {a b : Bool} (S : Seat P) (hc : b9 X.G st.env c = some (gd g (bv a)) := by rfl) (hx : b9 X.G st.env x = some (gd (g && a) (bv b)) := by rfl) : ValG P X st (.pick c x (.const (.bool false))) g (bv (a && b)) { reads := c9 [c, x, .const (.bool false)] } := ⟨fun hg => by
 subst hg
 exact (bT1 S hc (by simpa using hx)).exec rfl⟩
theorem cb9 {c x : Operand} {a b : Bool} (S : Seat P) (hc : b9 X.G st.env c = some (gd g (bv a)) := by rfl) (hx : b9 X.G st.env x = some (gd (g && !a) (bv b)) := by rfl) : ValG P X st (.pick c (.const (.bool true)) x) g (bv (a || b)) { reads := c9 [c, .const (.bool true), x] } := ⟨fun hg => by
 subst hg
 exact (cc0 S hc (by simpa using hx)).exec rfl⟩
theorem bn0 (S : Seat P) {s : Nat} {r u : PV} (hx : get env s = some r) (hs : Str r u) (hne : d ≠ s) (hd : lb d X.n = true)
  (t : WalkR P X ops dr s0 K (dn ++ [⟨⟨some d, .move (.tmp s), ty, pos, after, none⟩, { v := u, src := some (.slot s) }, { reads := [s], labs := u.labs }⟩]) ⟨(d, u) :: env, heap⟩ rest) : WalkR P X ops dr s0 K dn ⟨env, heap⟩ (⟨some d, .move (.tmp s), ty, pos, after, none⟩ :: rest) := by
 have h := bt0 (P := P) (X := X) (ops := ops) (st := ⟨env, heap⟩) (o := ⟨some d, .move (.tmp s), ty, pos, after, none⟩) S (raw := [r]) (u := u) rfl (by simp [Op.operands, evalL, b9, hx]) (by simp [y7, hs.eq]) (by simp [C5, F6 hd])
 have he : aB2 (Op.move (Operand.tmp s)) (some d) = some (.slot s) := by simp [aB2, hne]
 rw [he] at h
 exact WalkR.cons h t
theorem bn2 (S : Seat P) {x : Operand} {T T' : TypeId} {l : Nat} {p : List Nat} {ob : Ob} {r u : PV} [hO : Okt P T T'] [hc : Sc P T] (hx : b9 X.G env x = some (.ptr l p T')) (hl : get heap l = some ob) (hget : ob.get p = some r) (hs : Str r u) (hd : lb d X.n = true)
  (t : WalkR P X ops dr s0 K (dn ++ [⟨⟨some d, .load T x, ty, pos, after, none⟩, { v := u, src := some (.obj l p) }, { reads := c9 [x], hreads := [l], labs := u.labs }⟩]) ⟨(d, u) :: env, heap⟩ rest) : WalkR P X ops dr s0 K dn ⟨env, heap⟩ (⟨some d, .load T x, ty, pos, after, none⟩ :: rest) := by
 have h := bt1 (P := P) (X := X) (ops := ops) (st := ⟨env, heap⟩) (o := ⟨some d, .load T x, ty, pos, after, none⟩) S (x := x) (u := r) rfl rfl hx hO.ok hl hget (by simp [C5, F6 hd])
 rw [hc.spec.2.1, hs.eq] at h
 exact WalkR.cons h t
theorem bw8 (S : Seat P) {T : TypeId} {x : Operand} {r u : PV} (l : Nat) (hx : b9 X.G env x = some r) (hs : Str r u) (hty : tyV P T u = true) (h1 : (f7 P T).isSome = true ∨ P.cellsOf T = 1) (hlu : l ∉ u.labs) (hd : lb d X.n = true)
  (t : WalkR P X ops dr s0 K (dn ++ [⟨⟨some d, .box T x, ty, pos, after, none⟩, { v := .ptr l [] T, heap := [(l, .var T u)] }, { reads := c9 [x], news := [l], labs := l :: u.labs }⟩]) ⟨(d, .ptr l [] T) :: env, (l, .var T u) :: heap⟩ rest) :
  WalkR P X ops dr s0 K dn ⟨env, heap⟩ (⟨some d, .box T x, ty, pos, after, none⟩ :: rest) := by
 have h := bG0 (P := P) (X := X) (ops := ops) (st := ⟨env, heap⟩) (o := ⟨some d, .box T x, ty, pos, after, none⟩) S (x := x) (u := r) l rfl rfl rfl (F6 hd) hx (by rw [hs.eq]; exact hty) h1 (by rw [hs.eq]; exact hlu)
 rw [hs.eq] at h
 exact WalkR.cons h t
theorem aY2 (S : Seat P) {T : TypeId} {u : PV} (l : Nat) (hz : S.Z T = some u) (hlu : u.labs = []) (hd : lb d X.n = true)
  (t : WalkR P X ops dr s0 K (dn ++ [⟨⟨some d, .alloc T, ty, pos, after, none⟩, { v := .ptr l [] T, heap := [(l, .var T u)] }, { news := [l], labs := [l] }⟩]) ⟨(d, .ptr l [] T) :: env, (l, .var T u) :: heap⟩ rest) :
  WalkR P X ops dr s0 K dn ⟨env, heap⟩ (⟨some d, .alloc T, ty, pos, after, none⟩ :: rest) :=
 WalkR.cons (bc5 (P := P) (X := X) (ops := ops) (st := ⟨env, heap⟩) (o := ⟨some d, .alloc T, ty, pos, after, none⟩) S l rfl rfl rfl (F6 hd) hz hlu) t
theorem aY0 (S : Seat P) {x y : Operand} {T T' : TypeId} {l : Nat} {p : List Nat} {ob ob' : Ob} {r u u0 : PV} [hO : Okt P T T'] (hx : b9 X.G env x = some (.ptr l p T')) (hy : b9 X.G env y = some r) (hs : Str r u) (hl : get heap l = some ob) (hR : X.R.contains l = false) (hget : ob.get p = some u0)
  (hty : tyV P T u = true) (h1 : (f7 P T).isSome = true ∨ P.cellsOf T = 1 ∧ P.cellsOf T' = 1) (hset : ob.set p u = some ob')
  (t : WalkR P X ops dr s0 K (dn ++ [⟨⟨none, .store T x y, ty, pos, after, none⟩, { v := .tup [], heap := [(l, ob')] }, { reads := c9 [x, y], hreads := [l], labs := ob'.labs }⟩]) ⟨env, (l, ob') :: heap⟩ rest) :
  WalkR P X ops dr s0 K dn ⟨env, heap⟩ (⟨none, .store T x y, ty, pos, after, none⟩ :: rest) :=
 WalkR.cons (bc4 (P := P) (X := X) (ops := ops) (st := ⟨env, heap⟩) (o := ⟨none, .store T x y, ty, pos, after, none⟩) S rfl rfl hx hy hO.ok hl (aP2 hR) hget rfl (by rw [hs.eq]; exact hty) h1 (by rw [hs.eq]; exact hset)) t
theorem aF6 (S : Seat P) {x : Operand} {s : Nat} {T T' : TypeId} {l : Nat} {p : List Nat} {ob ob' : Ob} {u0 : PV} {E : TypeId} {ps : List Pu} [hO : Okt P T T'] [hc : Sc P T] [hc' : Sc P T'] (hx : b9 X.G env x = some (.ptr l p T')) (hsv : get env s = some (.ow lo E ps)) (hl : get heap l = some ob) (hR : X.R.contains l = false) (hget : ob.get p = some u0)
  (hset : ob.set p (.ow lo E ps) = some ob')
  (t : WalkR P X ops dr s0 K (dn ++ [⟨⟨none, .store T x (.tmp s), ty, pos, after, none⟩, { v := .tup [], env := [(s, .pu (.sl lo E ps))], heap := [(l, ob')] }, { reads := c9 [x, .tmp s], hreads := [l], labs := ob'.labs }⟩]) ⟨(s, .pu (.sl lo E ps)) :: env, (l, ob') :: heap⟩ rest) :
  WalkR P X ops dr s0 K dn ⟨env, heap⟩ (⟨none, .store T x (.tmp s), ty, pos, after, none⟩ :: rest) :=
 WalkR.cons (aJ2 (P := P) (X := X) (ops := ops) (st := ⟨env, heap⟩) (o := ⟨none, .store T x (.tmp s), ty, pos, after, none⟩) S rfl rfl hx hsv hO.ok hl (aP2 hR) hget rfl hc'.spec.2.1 ⟨hc.spec.2.2, hc'.spec.2.2⟩ hset) t
theorem aA0 {s : Nat} {E : TypeId} {ps : List Pu} (hs : get env s = some (.ow lo E ps)) (hsd : s ≠ d) (hd : lb d X.n = true)
  (t : WalkR P X ops dr s0 K (dn ++ [⟨⟨some d, .assign (.tmp s), ty, pos, after, none⟩, { v := .ow lo E ps, env := [(s, .pu (.sl lo E ps))] }, { reads := [s] }⟩]) ⟨(d, .ow lo E ps) :: (s, .pu (.sl lo E ps)) :: env, heap⟩ rest) :
  WalkR P X ops dr s0 K dn ⟨env, heap⟩ (⟨some d, .assign (.tmp s), ty, pos, after, none⟩ :: rest) :=
 WalkR.cons (aT9 (P := P) (X := X) (ops := ops) (st := ⟨env, heap⟩) (o := ⟨some d, .assign (.tmp s), ty, pos, after, none⟩) rfl rfl rfl (F6 hd) hsd hs) t
inductive Elems (E : TypeId) : PV → List Pu → Prop
 | pu {lo : Nat} {ps : List Pu} : Elems E (.pu (.sl lo E ps)) ps
 | xs {lo : Nat} {ps : List Pu} : Elems E (.xs lo E ps) ps
 | ow {lo : Nat} {ps : List Pu} : Elems E (.ow lo E ps) ps
 | nilc : Elems E .nilc []
theorem Elems.eq {E : TypeId} {r : PV} {ps : List Pu} (h : Elems E r ps) : I1 E (strip r) = some ps := by cases h <;> simp [I1, strip]
inductive Exact (lo : Nat) (E : TypeId) : PV → List Pu → Prop
 | xs {ps : List Pu} : Exact lo E (.xs lo E ps) ps
 | nilc : Exact lo E .nilc []
theorem Exact.eq {E : TypeId} {r : PV} {ps : List Pu} (h : Exact lo E r ps) : ad5 lo E (strip r) = some ps := by cases h <;> simp [ad5, strip]
theorem bn6 {x y : Operand} {tt E : TypeId} {B : Nat} {u v : PV} {ps ys : List Pu} [hE : El P tt E B] (hx : b9 X.G env x = some u) (hu : Exact lo E u ps) (hy : b9 X.G env y = some v) (hv : Elems E v ys) (hd : lb d X.n = true) (hfit : (ps.length + ys.length) * B ≤ 70368744177664) (hlo : lo ≤ X.w0.heap.size)
  (t : WalkR P X ops dr s0 K (dn ++ [⟨⟨some d, .call ⟨.builtin .append, #[x, y], #[tt, tt]⟩, ty, pos, after, none⟩, { v := .ow lo E (ps ++ ys) }, { reads := c9 [x, y] }⟩]) ⟨(d, .ow lo E (ps ++ ys)) :: env, heap⟩ rest) :
  WalkR P X ops dr s0 K dn ⟨env, heap⟩ (⟨some d, .call ⟨.builtin .append, #[x, y], #[tt, tt]⟩, ty, pos, after, none⟩ :: rest) :=
 WalkR.cons (aj5 (P := P) (X := X) (ops := ops) (st := ⟨env, heap⟩) (o := ⟨some d, .call ⟨.builtin .append, #[x, y], #[tt, tt]⟩, ty, pos, after, none⟩) rfl rfl hE.spec.1 hx hu.eq hy hv.eq rfl (F6 hd) (by rw [hE.spec.2]; exact hfit) hlo) t
theorem bn5 {b s : Nat} {y : Operand} {tt E : TypeId} {B : Nat} {v : PV} {ps ys : List Pu} [hE : El P tt E B] (hs : get env s = some (.ow lo E ps)) (hy : b9 X.G env y = some v) (hv : Elems E v ys) (hd : lb d X.n = true) (hfit : (ps.length + ys.length) * B ≤ 70368744177664) (hlo : lo ≤ X.w0.heap.size)
  (t : WalkR P X ops dr s0 K (dn ++ [⟨⟨some d, .call ⟨.builtin .append, #[.tmp b, y], #[tt, tt]⟩, ty, pos, after, none⟩, { v := .ow lo E (ps ++ ys), env := [(s, .pu (.sl lo E ps))] }, { reads := b :: s :: c9 [y], bors := [(b, .slot s)] }⟩]) ⟨(d, .ow lo E (ps ++ ys)) :: (s, .pu (.sl lo E ps)) :: env, heap⟩ rest) :
  WalkR P X ops dr s0 K dn ⟨env, heap⟩ (⟨some d, .call ⟨.builtin .append, #[.tmp b, y], #[tt, tt]⟩, ty, pos, after, none⟩ :: rest) :=
 WalkR.cons (am7 (P := P) (X := X) (ops := ops) (st := ⟨env, heap⟩) (o := ⟨some d, .call ⟨.builtin .append, #[.tmp b, y], #[tt, tt]⟩, ty, pos, after, none⟩) rfl rfl hE.spec.1 hs hy hv.eq rfl (F6 hd) (by rw [hE.spec.2]; exact hfit) hlo) t
theorem bn4 {b l : Nat} {p : List Nat} {y : Operand} {tt E : TypeId} {B : Nat} {v : PV} {ps ys : List Pu} {ob ob' : Ob} [hE : El P tt E B] (hl : get heap l = some ob) (hR : X.R.contains l = false) (hget : ob.get p = some (.ow lo E ps)) (hset : ob.set p (.pu (.sl lo E ps)) = some ob') (hy : b9 X.G env y = some v) (hv : Elems E v ys) (hd : lb d X.n = true)
  (hfit : (ps.length + ys.length) * B ≤ 70368744177664) (hlo : lo ≤ X.w0.heap.size)
  (t : WalkR P X ops dr s0 K (dn ++ [⟨⟨some d, .call ⟨.builtin .append, #[.tmp b, y], #[tt, tt]⟩, ty, pos, after, none⟩, { v := .ow lo E (ps ++ ys), heap := [(l, ob')] }, { reads := b :: c9 [y], hreads := [l], bors := [(b, .obj l p)], labs := ob'.labs }⟩]) ⟨(d, .ow lo E (ps ++ ys)) :: env, (l, ob') :: heap⟩ rest) :
  WalkR P X ops dr s0 K dn ⟨env, heap⟩ (⟨some d, .call ⟨.builtin .append, #[.tmp b, y], #[tt, tt]⟩, ty, pos, after, none⟩ :: rest) :=
 WalkR.cons (ap5 (P := P) (X := X) (ops := ops) (st := ⟨env, heap⟩) (o := ⟨some d, .call ⟨.builtin .append, #[.tmp b, y], #[tt, tt]⟩, ty, pos, after, none⟩) rfl rfl hE.spec.1 hl (aP2 hR) hget hset hy hv.eq rfl (F6 hd) (by rw [hE.spec.2]; exact hfit) hlo) t
theorem bV8 {f : FuncId} {as : Array Operand} {ts : Array TypeId} {vs args : List PV} {v : PV} (he : j8 P f = true) (h : EvL X st.env g as.toList vs) (hn : vs.any j1 = false) (himp : VImps P vs args) (hn' : args.any j1 = false) (hc : g = true → FCall P X.G f args v) :
  ValG P X st (.call ⟨.value (.func f), as, ts⟩) g v { reads := c9 as.toList } := ⟨fun hg st' ha C a w hs o ho hd => by
 obtain ⟨raw, h1, h2⟩ := h.raw hg
 have h1' : evalL X.G st'.env as.toList = some raw := by
  rw [u6 (env := st.env) fun t ht => ha.env t ht];exact h1
 exact ad4 (first := []) (captured := []) (HR := []) (H := []) (news := []) hs ho rfl rfl he h1' (by rw [h2]; exact hn) (by rw [h2]; simpa using himp) hn' (fun l ob hl => by cases hl) (fun l ob hl => by cases hl) (hc hg) (fun l hl => by cases hl) hd⟩
theorem bh1 {l : Nat} {v : PV} (h : v.labs.contains l = false) : l ∉ v.labs := by simpa using h
theorem aP4 {b : Bool} {l : Nat} {v : PV} (h : v.labs.contains l = false) : l ∉ (gd b v).labs := fun hl => bh1 h (aI1 hl)
theorem aP3 {l : Nat} {ob : Ob} (h : ob.labs.contains l = false) : l ∉ ob.labs := by simpa using h
structure NewL (X : Ctx) (st : St) (l : Nat) : Prop where
 ok : Fresh st l ∧ get st.heap l = none
theorem NewL.nil {l : Nat} : NewL X ⟨[], []⟩ l := ⟨⟨fun i v h => (by cases h), fun i v h => (by cases h)⟩, rfl⟩
theorem NewL.e {l i : Nat} {v : PV} (h : l ∉ v.labs) (t : NewL X ⟨env, heap⟩ l) : NewL X ⟨(i, v) :: env, heap⟩ l := ⟨⟨fun j u hu => by
 rw [f8] at hu
 split at hu
 ·simp at hu; subst hu; exact h
 ·exact t.ok.1.env j u hu, t.ok.1.heap⟩, t.ok.2⟩
theorem NewL.h {l i : Nat} {ob : Ob} (hne : Nat.beq l i = false) (h : l ∉ ob.labs) (t : NewL X ⟨[], heap⟩ l) : NewL X ⟨[], (i, ob) :: heap⟩ l := by
 have hn : l ≠ i := fun e => by subst e; simp at hne
 refine ⟨⟨fun j u hu => (by cases hu), fun j u hu => ?_⟩, ?_⟩
 ·simp only at hu
  rw [f8] at hu
  split at hu
  ·simp at hu; subst hu; intro _; exact h
  ·exact t.ok.1.heap j u hu
 ·simp only [f8]
  rw [if_neg hn];exact t.ok.2
inductive NewAll (X : Ctx) (st : St) : List Nat → Prop
 | nil : NewAll X st []
 | cons {l : Nat} {ls : List Nat} (hL : X.L.contains l = false) (h : NewL X st l) (t : NewAll X st ls) : NewAll X st (l :: ls)
theorem NewAll.at {ls : List Nat} (h : NewAll X s0 ls) : ∀ l ∈ ls, Fresh s0 l ∧ get s0.heap l = none ∧ l ∉ X.L := by
 induction h with
 | nil => intro l hl; cases hl
 | cons hL h _ ih =>
  intro l hl
  rcases List.mem_cons.1 hl with rfl | hl
  ·exact ⟨h.ok.1, h.ok.2, by simpa using hL⟩
  ·exact ih l hl
theorem bF9 {st : St} {dn : List Item} (h1 : A5 [] dn = true) (hn : dn.flatMap (·.f.news) = []) (h : K st) : WalkR P X ops false s0 K dn st [] :=
 .nil h1 (fun h => by cases h) (fun x hx l hl => by
  have : l ∈ dn.flatMap (·.f.news) := List.mem_flatMap.2 ⟨x, hx, hl⟩
  rw [hn] at this
  cases this) h
theorem bs9 {st : St} {dn : List Item} (h1 : A5 [] dn = true) (h2 : M8 dn = true) (hn : dn.flatMap (·.f.news) = []) (h : K st) : WalkR P X ops true s0 K dn st [] :=
 .nil h1 (fun _ => h2) (fun x hx l hl => by
  have : l ∈ dn.flatMap (·.f.news) := List.mem_flatMap.2 ⟨x, hx, hl⟩
  rw [hn] at this
  cases this) h
theorem bs8 {st : St} {dn : List Item} {ls : List Nat} (h1 : A5 [] dn = true) (hn : dn.flatMap (·.f.news) = ls) (hf : NewAll X s0 ls) (h : K st) : WalkR P X ops false s0 K dn st [] :=
 .nil h1 (fun h => by cases h) (fun x hx l hl => hf.at l (by rw [← hn]; exact List.mem_flatMap.2 ⟨x, hx, hl⟩)) h
theorem bc3 {st : St} {dn : List Item} {ls : List Nat} (h1 : A5 [] dn = true) (h2 : M8 dn = true) (hn : dn.flatMap (·.f.news) = ls) (hf : NewAll X s0 ls) (h : K st) : WalkR P X ops true s0 K dn st [] :=
 .nil h1 (fun _ => h2) (fun x hx l hl => hf.at l (by rw [← hn]; exact List.mem_flatMap.2 ⟨x, hx, hl⟩)) h
inductive SubE (env : List (Nat × PV)) : List (Nat × PV) → Prop
 | nil : SubE env []
 | cons {i : Nat} {v u : PV} {r : List (Nat × PV)} (h : get env i = some u) (e : u = v) (t : SubE env r) : SubE env ((i, v) :: r)
inductive SubH (heap : List (Nat × Ob)) : List (Nat × Ob) → Prop
 | nil : SubH heap []
 | cons {i : Nat} {v u : Ob} {r : List (Nat × Ob)} (h : get heap i = some u) (e : u = v) (t : SubH heap r) : SubH heap ((i, v) :: r)
theorem SubE.le {env r : List (Nat × PV)} (h : SubE env r) : ∀ i v, get r i = some v → get env i = some v := by
 induction h with
 | nil => intro i v h; cases h
 | cons h e _ ih =>
  intro i v hv
  rw [f8] at hv
  split at hv
  ·rename_i e'
   simp at hv
   subst e' hv;rw [h, e]
  ·exact ih i v hv
theorem SubH.le {heap r : List (Nat × Ob)} (h : SubH heap r) : ∀ i v, get r i = some v → get heap i = some v := by
 induction h with
 | nil => intro i v h; cases h
 | cons h e _ ih =>
  intro i v hv
  rw [f8] at hv
  split at hv
  ·rename_i e'
   simp at hv
   subst e' hv;rw [h, e]
  ·exact ih i v hv
theorem k7 {e' : List (Nat × PV)} {h' : List (Nat × Ob)} (h1 : SubE env e') (h2 : SubH heap h') : St.Le ⟨e', h'⟩ ⟨env, heap⟩ := ⟨h1.le, h2.le⟩
end
section
variable {P : Program} {lo : Nat}
theorem ag8 (z : Array Value) (n k : Nat) (hz : z.size = k) : (madeCells z (n * k)).toList = (List.replicate n z.toList).flatten := by
 subst hz;exact aB7 z n
theorem bs3 (S : Seat P) {X : Ctx} {C : Cfg} {st : St} {o : Oper} {a : Act} {w : World} (h : SatC P X C st a w) {t E : TypeId} {B : Nat} [hE : El P t E B] {x y : Operand} {l d n : Nat} {k k' : IntKind} {z : PV} (hop : o.op = .makeSlice t x y) (hd : o.dst = some d) (hdn : d < X.n)
  (hf : Fresh st l) (hL : l ∉ X.L) (hn : get st.heap l = none) (hx : b9 X.G st.env x = some (iv k n)) (hy : b9 X.G st.env y = some (iv k' n)) (hz : S.Z E = some z) (hlz : z.labs = []) (hfit : n * B ≤ 281474976710656) (h63 : n ≤ 9223372036854775807) :
  Exec P X C st o a w { v := .arr l E 0 n, heap := [(l, .row E (List.replicate n z))] } := by
 obtain ⟨zv, z1, z2, z3, z4, z5, z6⟩ := Z5 S hz C w
 obtain ⟨he, hB⟩ := hE.spec
 obtain ⟨i, zz, i1, i2, i3⟩ := he.zero
 have hzz : zv = zz := by
  simp [zeroValue, typeInfo, i1, i2] at z1
  exact z1.symm
 subst hzz
 have ex := (h.eval hx).leaf_inv.1
 have ey := (h.eval hy).leaf_inv.1
 have hi : i.size = P.cellsOf E := (E8 i1).symm
 have hb : i.bytes = B := by rw [← hB]; exact (G7 i1).symm
 have hrun := run_make (P := P) w t E i zv he.slice i1 i2 k k' n n (by omega) (by omega) (by
  rw [hb]
  have : ((n * B : Nat) : Int) ≤ 281474976710656 := by omega
  rw [Int.natCast_mul] at this
  rw [Int.mul_comm]
  exact this) (by omega)
 simp only [Int.toNat_natCast] at hrun
 have hcells : (madeCells zv.cells (n * i.size)).toList = (List.replicate n zv.cells.toList).flatten := ag8 _ _ _ (by rw [z4, hi])
 have hs := h.new hf hL (ob := .row E (List.replicate n z)) (o := .cells (madeCells zv.cells (n * i.size)) E (0, 0)) (by
  refine ⟨madeCells zv.cells (n * i.size), (List.replicate n zv.cells.toList).flatten, [], alloc_heap_new w _, by simp [hcells], ?_⟩
  rw [List.length_replicate]
  have hz' : VR P (C.at l w.heap.size (.row E)) (w.alloc (.cells (madeCells zv.cells (n * i.size)) E (0, 0))) none z zv.cells.toList :=
   z2.mono ⟨fun b o hD => ⟨hD, (Grew.alloc w _).cell (h.dLt b o hD)⟩, fun l' hl' => (by rw [hlz] at hl'; cases hl'), fun b q k hb hq => hq.elim, (Grew.alloc w _).ty⟩
  exact (VRs.replicate hz' (by simpa using z4) z5 n 0).any _)
 refine m5 (y := .slice (some ⟨w.heap.size, 0, none⟩) n n) ?_ ?_ (aF5 (w' := w.alloc (.cells (madeCells zv.cells (n * i.size)) E (0, 0))) (C' := C.at l w.heap.size (.row E)) h hn (Grew.alloc w _) (fun l' hne => by simp [Cfg.at, hne]) _) (fun L d hL => by simp at hL)
 ·obtain ⟨dst, op, type, pos, after, guard⟩ := o
  simp only at hop
  subst hop
  simp only [execOp, ex, ey]
  simp only [Sem.run_bind, hrun, Result.andThen_ok, Sem.run_pure]
 ·rw [hd]
  exact hs.put hdn (.one (by
   have := VR.arr (P := P) (C := C.at l w.heap.size (.row E)) (w := w.alloc (.cells (madeCells zv.cells (n * i.size)) E (0, 0))) (pl := some (.slot d)) (l := l) (E := E) (off := 0) (len := n) (b := w.heap.size) (cap := n) (by simp [Cfg.at]) (Nat.le_refl _)
   rw [Nat.zero_mul] at this
   exact this) rfl)
theorem at3 {C : Cfg} {w : World} {E : TypeId} {ps : List Pu} {a : Option Addr} {cap : Nat} (h : PR P C.D w (.sl lo E ps) [.slice a ps.length cap]) :
  ∃ x, PRs P C.D w (List.replicate ps.length (P.cellsOf E, E)) ps x ∧ x.length = ps.length * P.cellsOf E ∧ (Builtin.firstCells (P.cellsOf E) ps.length (.slice a ps.length cap)).run P w = .ok x.toArray w := by
 obtain ⟨_, x, h1, h2, h3⟩ := h.cells
 refine ⟨x, h1, h2, ?_⟩
 by_cases hp : ps = []
 ·subst hp
  have hx : x = [] := List.length_eq_zero_iff.1 (by simpa using h2)
  subst hx
  cases a with
  | none => simp [Builtin.firstCells]
  | some a => simp [Builtin.firstCells, loadCells, loadCellsFrom]
 ·obtain ⟨b, o, rfl, _, hc⟩ := h3 hp
  have := run_loadCells_list (P := P) w ⟨b, o, none⟩ x (fun j v hj => (hc j v hj).1)
  simp [Builtin.firstCells, ← h2, this]
theorem bs5 (hT : j3 P = true) {X : Ctx} {C : Cfg} {st : St} {o : Oper} {a : Act} {w : World} (h : SatC P X C st a w) {t t' E : TypeId} [hS : Sl P t E] (hlE : E < P.types.size) {x y : Operand} {l n : Nat} {v : PV} {vs : List PV} {ps : List Pu} (hop : o.op = .call ⟨.builtin .copy, #[x, y], #[t, t']⟩) (hd : C5 X.n o.dst = true)
  (hx : b9 X.G st.env x = some (.arr l E 0 n)) (hl : get st.heap l = some (.row E vs)) (hR : l ∉ X.R) (hvn : vs.length = n) (hy : b9 X.G st.env y = some v) (hv : I1 E (strip v) = some ps) (hpn : ps.length = n) :
  Exec P X C st o a w { v := iv .i64 n, heap := [(l, .row E (ps.map .pu))] } := by
 obtain ⟨b, cap, ex, hρ, hcap⟩ := aE6 (h.eval hx)
 obtain ⟨a1, n1, c1, ey, p1⟩ := O8 (h.eval hy) hv
 obtain ⟨b', e1, _, hor⟩ := h.heap l _ hl
 have hb : b' = b := by rw [e1] at hρ; simp at hρ; exact hρ.1
 subst hb
 obtain ⟨c, yc, zc, g1, g2, g3⟩ := hor
 have hn1 : n1 = ps.length := p1.cells.1
 subst hn1
 obtain ⟨xc, x1, x2, x3⟩ := at3 p1
 have hyl : yc.length = ps.length * P.cellsOf E := by
  have := g3.length.1
  rw [this, hvn, hpn]
  simp
 have hone : ∀ u ∈ xc, u.oneCell' = true := PRs.one x1
 have hst := run_storeCells_at P b' 0 E xc 0 c w g1 (by
  simp only [Nat.zero_add]
  rw [x2, ← Array.length_toList, g2, List.length_append, hyl]
  omega) hone
 simp only [Nat.zero_add, List.take_zero, List.nil_append] at hst
 let c' : Array Value := (xc ++ c.toList.drop xc.length).toArray
 have hc' : c'.toList = xc ++ zc := by
  simp only [c', g2]
  rw [List.drop_append_of_le_length (by omega), List.drop_of_length_le (by omega), List.nil_append]
 have gbut := I2 w b' c'
 have st1 := h.staysBut hl e1 gbut
 have hsat : SatC P X C ⟨st.env, (l, .row E (ps.map .pu)) :: st.heap⟩ a (w.setRow b' c') := by
  refine h.write (ob' := .row E (ps.map .pu)) hl hR e1 rfl gbut st.env rfl rfl (fun _ q _ hq => ⟨q, hq⟩) (fun i u hu => ?_) (fun l' ob1 _ _ => st1 _ _) ⟨c', xc, zc, setRow_heap w b' c c' E (0, 0) g1, hc', ?_⟩ (st1 _ _)
  ·obtain ⟨q, h1, h2⟩ := h.env i u hu
   exact ⟨q, h1, h2.mono (st1 _ _)⟩
  ·rw [List.length_map]
   exact PRs.toV 0 (PRs.mono (st1 [] (fun _ => False)).D gbut.ty x1)
 have hd2 : ∀ q : Value, VW P C (w.setRow b' c') (iv .i64 n) q → SatC P X C (st.upd o.dst { v := iv .i64 n, heap := [(l, .row E (ps.map .pu))] }) (a.put o.dst q) (w.setRow b' c') := fun q hq => by
  cases hdst : o.dst with
  | none => exact hsat
  | some d => exact hsat.put (t6 hd d hdst) (hq.vt d)
 refine m5 (y := .int .i64 n) (w' := w.setRow b' c') (C' := C) ?_ (hd2 _ VW.iv_mk) (as2 (ob' := .row E (ps.map .pu)) h hl rfl (fun b R hbR => ?_) _ rfl) (fun L d hL => by simp at hL)
 ·obtain ⟨dst, op, type, pos, after, guard⟩ := o
  simp only at hop
  subst hop
  have hmin : Nat.min ps.length n = ps.length := by rw [hpn]; exact Nat.min_self n
  simp [execOp, resolve, invoke, builtin, ex, ey, Builtin.copy_, run_underlying hS.spec.2, Builtin.lenOf, hmin, v5 hT hlE, x3, hst, goInt]
  refine ⟨?_, rfl⟩
  rw [hpn]
 ·rw [e1] at hbR
  simp at hbR
  rw [← hbR.1];exact gbut
section
variable {X : Ctx} {ops : Array Oper} {env : List (Nat × PV)} {heap : List (Nat × Ob)} {dr : Bool} {s0 : St} {K : St → Prop} {dn : List Item} {rest : List Oper} {d : Nat} {ty : TypeId} {pos : String} {after : Array Edge}
theorem aN4 {z : PV} (h : z.labs = []) : ∀ n, PV.labsL (List.replicate n z) = []
 | 0 => rfl
 | n + 1 => by simp [List.replicate_succ, PV.labsL, h, aN4 h n]
theorem bn1 (S : Seat P) {t E : TypeId} {B : Nat} [hE : El P t E B] {x y : Operand} {n : Nat} {k k' : IntKind} {z : PV} (l : Nat) (hx : b9 X.G env x = some (iv k n)) (hy : b9 X.G env y = some (iv k' n)) (hz : S.Z E = some z) (hlz : z.labs = []) (hd : lb d X.n = true)
  (hfit : n * B ≤ 281474976710656) (h63 : n ≤ 9223372036854775807)
  (c : WalkR P X ops dr s0 K (dn ++ [⟨⟨some d, .makeSlice t x y, ty, pos, after, none⟩, { v := .arr l E 0 n, heap := [(l, .row E (List.replicate n z))] }, { reads := c9 [x, y], news := [l], labs := [l] }⟩]) ⟨(d, .arr l E 0 n) :: env, (l, .row E (List.replicate n z)) :: heap⟩ rest) :
  WalkR P X ops dr s0 K dn ⟨env, heap⟩ (⟨some d, .makeSlice t x y, ty, pos, after, none⟩ :: rest) := by
 refine WalkR.cons ⟨fun l' h => ?_, fun L h => by simp at h, fun st' ha hn C a w hs _ => ?_⟩ c
 ·simp [PV.labs, Ob.labs, aN4 hlz] at h
  simp [h]
 ·obtain ⟨h1, h2, h3⟩ := hn l (by simp)
  have hx' : b9 X.G st'.env x = some (iv k n) := by
   rw [d5 (env := env) fun t e => ha.env t (f0 (by rw [e]; simp))];exact hx
  have hy' : b9 X.G st'.env y = some (iv k' n) := by
   rw [d5 (env := env) fun t e => ha.env t (f0 (by rw [e]; simp))];exact hy
  exact .of ((Guard.none rfl).wanted hs) (bs3 S hs rfl rfl (F6 hd) h1 h3 h2 hx' hy' hz hlz hfit h63)
theorem bn3 (S : Seat P) {t t' E : TypeId} [hS : Sl P t E] (hlE : Nat.ble (E + 1) P.types.size = true) {x y : Operand} {l n : Nat} {v : PV} {vs : List PV} {ps : List Pu} (hx : b9 X.G env x = some (.arr l E 0 n)) (hl : get heap l = some (.row E vs)) (hR : X.R.contains l = false) (hy : b9 X.G env y = some v) (hv : Elems E v ps)
  (hvn : vs.length = n) (hpn : ps.length = n) (hd : lb d X.n = true)
  (c : WalkR P X ops dr s0 K (dn ++ [⟨⟨some d, .call ⟨.builtin .copy, #[x, y], #[t, t']⟩, ty, pos, after, none⟩, { v := iv .i64 n, heap := [(l, .row E (ps.map .pu))] }, { reads := c9 [x, y], hreads := [l] }⟩]) ⟨(d, iv .i64 n) :: env, (l, .row E (ps.map .pu)) :: heap⟩ rest) :
  WalkR P X ops dr s0 K dn ⟨env, heap⟩ (⟨some d, .call ⟨.builtin .copy, #[x, y], #[t, t']⟩, ty, pos, after, none⟩ :: rest) := by
 refine WalkR.cons ⟨fun l' h => ?_, fun L h => by simp at h, fun st' ha hn C a w hs _ => ?_⟩ c
 ·have h1 : PV.labsL (ps.map PV.pu) = [] := aa5 ps
  simp [PV.labs, iv, Ob.labs, h1] at h
 ·have hx' : b9 X.G st'.env x = some (.arr l E 0 n) := by
   rw [d5 (env := env) fun t e => ha.env t (f0 (by rw [e]; simp))];exact hx
  have hy' : b9 X.G st'.env y = some v := by
   rw [d5 (env := env) fun t e => ha.env t (f0 (by rw [e]; simp))];exact hy
  exact .of ((Guard.none rfl).wanted hs) (bs5 S.hT hs (Nat.le_of_ble_eq_true hlE) rfl (by simp [C5, F6 hd]) hx' ((ha.heap l (by simp)).trans hl) (aP2 hR) hvn hy' hv.eq hpn)
end
mutual
def am4 (lo l : Nat) (E : TypeId) (ps : List Pu) : PV → PV
 | .arr l' E' o n => if l' = l ∧ E' = E ∧ o = 0 ∧ n = ps.length then .pu (.sl lo E ps) else .arr l' E' o n
 | .agg T vs => .agg T (bE8 lo l E ps vs)
 | v => v
def bE8 (lo l : Nat) (E : TypeId) (ps : List Pu) : List PV → List PV
 | [] => []
 | v :: vs => am4 lo l E ps v :: bE8 lo l E ps vs
end
theorem bj3 (lo l : Nat) (E : TypeId) (ps : List Pu) (T : TypeId) (v : PV) : tyV P T (am4 lo l E ps v) = tyV P T v := by
 cases v with
 | arr l' E' o n => simp only [am4]; split <;> simp [tyV, tyP]
 | agg T' vs => simp [am4, tyV]
 | _ => rfl
theorem bE7 (lo l : Nat) (E : TypeId) (ps : List Pu) (v : PV) : (am4 lo l E ps v).isAgg = v.isAgg := by
 cases v with
 | arr l' E' o n => simp only [am4]; split <;> rfl
 | _ => rfl
mutual
theorem VR.frz {C C' : Cfg} {w : World} {l b : Nat} {E : TypeId} {ps : List Pu} {y : List Value} (hρ : C.ρ l = some (b, .row E)) (hC : C'.ρ = C.ρ) (hO : C'.own = C.own) (hD : ∀ b o, C.D b o → C'.D b o) (hps : PRs P C'.D w (List.replicate ps.length (P.cellsOf E, E)) ps y)
  (hy : ∀ j u, y[j]? = some u → w.cell? ⟨b, 0 + j, none⟩ = some u ∧ C'.D b (0 + j)) (hL : LoOk w lo E b 0) : ∀ {pl : Option Place} {v : PV} {x : List Value}, VR P C w pl v x → VR P C' w pl (am4 lo l E ps v) x
 | _, _, _, .pu h => .pu (h.mono (fun b o h => ⟨hD b o h, rfl⟩) (TyKeep.refl w))
 | _, _, _, .ptr hl hs => .ptr (by rw [hC]; exact hl) hs
 | _, _, _, .pp h ht hl hx => .pp (h.mono ⟨fun b o h => ⟨hD b o h, rfl⟩, fun l _ => by rw [hC], fun b q k hb hq => hq.elim, TyKeep.refl w⟩) ht hl fun j u hj => ⟨(hx j u hj).1, hD _ _ (hx j u hj).2⟩
 | _, _, _, .arr (l := l') (E := E') (off := o) (len := n) (b := b') (cap := cap) hl hc => by
  simp only [am4]
  split
  ·rename_i e
   obtain ⟨rfl, rfl, rfl, rfl⟩ := e
   rw [hρ] at hl
   simp at hl
   subst hl;refine .pu ?_;rw [Nat.zero_mul]
   by_cases hp : ps = []
   ·subst hp
    exact .sl0
   ·exact .sl hp hc hps hy hL
  ·exact .arr (by rw [hC]; exact hl) hc
 | _, _, _, .mp hl => .mp (by rw [hC]; exact hl)
 | _, _, _, .nilc => .nilc
 | _, _, _, .xs h => .xs (h.mono (fun b o h => ⟨hD b o h, rfl⟩) (TyKeep.refl w))
 | _, _, _, .owx h => .owx (h.mono (fun b o h => ⟨hD b o h, rfl⟩) (TyKeep.refl w))
 | _, _, _, .ow h ho hb hc hl => .ow (h.mono (fun b o h => ⟨hD b o h, rfl⟩) (TyKeep.refl w)) (by rw [hO]; exact ho) hb hc hl
 | _, _, _, .hd => .hd
 | _, _, _, .flx => .flx
 | _, _, _, .fl h hn ho hb hy hc => .fl (h.mono (fun b o h => ⟨hD b o h, rfl⟩) (TyKeep.refl w)) hn (by rw [hO]; exact ho) hb hy hc
 | _, _, _, .fn hf hc => .fn (hf.mono ⟨fun b o h => ⟨hD b o h, rfl⟩, fun l _ => by rw [hC], fun b q k hb hq => hq.elim, TyKeep.refl w⟩) (hc.mono ⟨fun b o h => ⟨hD b o h, rfl⟩, fun l _ => by rw [hC], fun b q k hb hq => hq.elim, TyKeep.refl w⟩)
 | _, _, _, .agg hc h => .agg hc (VRs.frz hρ hC hO hD hps hy hL h)
theorem VRs.frz {C C' : Cfg} {w : World} {l b : Nat} {E : TypeId} {ps : List Pu} {y : List Value} (hρ : C.ρ l = some (b, .row E)) (hC : C'.ρ = C.ρ) (hO : C'.own = C.own) (hD : ∀ b o, C.D b o → C'.D b o) (hps : PRs P C'.D w (List.replicate ps.length (P.cellsOf E, E)) ps y)
  (hy : ∀ j u, y[j]? = some u → w.cell? ⟨b, 0 + j, none⟩ = some u ∧ C'.D b (0 + j)) (hL : LoOk w lo E b 0) : ∀ {pl : Option Place} {i : Nat} {cs : List (Nat × TypeId)} {vs : List PV} {x : List Value}, VRs P C w pl i cs vs x → VRs P C' w pl i cs (bE8 lo l E ps vs) x
 | _, _, _, _, _, .nil => .nil
 | _, _, _, _, _, .cons hp hs ht h => .cons (VR.frz hρ hC hO hD hps hy hL hp) hs ((bj3 _ _ _ _ _ _).trans ht) (VRs.frz hρ hC hO hD hps hy hL h)
end
def aD5 (lo l : Nat) (E : TypeId) (ps : List Pu) : Ob → Option Ob
 | .var T v => some (.var T (am4 lo l E ps v))
 | _ => none
structure Frozen (lo l : Nat) (E : TypeId) (ps : List Pu) (st st' : St) : Prop where
 env : ∀ i v', get st'.env i = some v' → ∃ v, get st.env i = some v ∧ (∀ us, v ≠ .tup us) ∧ v' = am4 lo l E ps v
 heap : ∀ k ob', get st'.heap k = some ob' → k ≠ l ∧ ∃ ob, get st.heap k = some ob ∧ aD5 lo l E ps ob = some ob'
theorem Ghost.freeze {X : Ctx} {st st' : St} {l : Nat} {E : TypeId} {ps : List Pu} (hlo : lo = 0 ∨ (lo ≤ X.w0.heap.size ∧ ∀ b, ¬ X.M b)) (hl : get st.heap l = some (.row E (ps.map .pu))) (hR : l ∉ X.R) (hF : Frozen lo l E ps st st') : Ghost P X st st' := by
 intro C a w h
 obtain ⟨b, e1, e2, hor⟩ := h.heap l _ hl
 simp only [Ob.root] at e1
 have hlt := hor.lt
 obtain ⟨c, y, z, g1, g2, g3⟩ := hor
 have hL : LoOk w lo E b 0 := by
  rcases hlo with h0 | ⟨h0, hM⟩
  ·exact .inl h0
  ·exact .inr ⟨Nat.le_trans h0 ((e2.resolve_left hR).resolve_right (hM b)), rfl, c, g1⟩
 rw [List.length_map] at g3
 have hps := g3.toP
 let C' := C.pure b y.length
 have hD : ∀ b o, C.D b o → C'.D b o := fun b o h => .inl h
 have hps' : PRs P C'.D w (List.replicate ps.length (P.cellsOf E, E)) ps y := PRs.mono (fun b o h => ⟨hD b o h, rfl⟩) (TyKeep.refl w) hps
 have hy : ∀ j u, y[j]? = some u → w.cell? ⟨b, 0 + j, none⟩ = some u ∧ C'.D b (0 + j) := fun j u hj => by
  have hj' : j < y.length := (List.getElem?_eq_some_iff.1 hj).1
  rw [Nat.zero_add, m8 g1, ← Array.getElem?_toList, g2, List.getElem?_append_left hj'];exact ⟨hj, .inr ⟨rfl, hj'⟩⟩
 refine ⟨C', h.size, h.defers, h.framed, fun i v' hv' => ?_, fun k ob' hk => ?_, fun l1 l2 b1 R R' o1 o2 h1 h2 => ?_, fun k ob' b1 R o hk hb1 hDD => ?_, fun b1 o hDD => ?_, fun b1 q k hb1 => ?_, h.gl.mono ⟨fun b o h => ⟨hD b o h, rfl⟩, fun _ _ => rfl, fun b q k hb hq => hq.elim, TyKeep.refl w⟩, ⟨h.kin.rho, fun b o h0 => hD b o (h.kin.dOld b o h0), fun b1 o hDD => ?_⟩, h.keep⟩
 ·obtain ⟨v, h1, h2, rfl⟩ := hF.env i v' hv'
  obtain ⟨x, h3, h4⟩ := h.env i v h1
  refine ⟨x, h3, ?_⟩
  cases h4 with
  | one h5 h6 => exact .one (h5.frz (C' := C') e1 rfl rfl hD hps' hy hL) (h6.trans (bE7 _ _ _ _ _).symm)
  | tup h5 => exact absurd rfl (h2 _)
 ·obtain ⟨hne, ob, h1, h2⟩ := hF.heap k ob' hk
  obtain ⟨b1, f1, f2, f3⟩ := h.heap k ob h1
  cases ob with
  | var T v =>
   simp [aD5] at h2
   subst h2
   obtain ⟨c1, E1, k1, k2, k3, k4⟩ := f3
   exact ⟨b1, f1, f2, c1, E1, k1, k2.frz (C' := C') e1 rfl rfl hD hps' hy hL, (bj3 _ _ _ _ _ _).trans k3, k4⟩
  | _ => simp [aD5] at h2
 ·obtain ⟨_, p1, q1, _⟩ := hF.heap l1 o1 h1
  obtain ⟨_, p2, q2, _⟩ := hF.heap l2 o2 h2
  exact h.inj l1 l2 b1 R R' p1 p2 q1 q2
 ·obtain ⟨hne, p1, q1, _⟩ := hF.heap k ob' hk
  rcases hDD with hDD | ⟨rfl, _⟩
  ·exact h.dObj k p1 b1 R o q1 hb1 hDD
  ·exact hne (h.inj k l b1 R _ p1 _ q1 hl hb1 e1)
 ·rcases hDD with hDD | ⟨rfl, _⟩
  ·exact h.dLt b1 o hDD
  ·exact hlt
 ·obtain ⟨r1, r2, r3, r4⟩ := h.own b1 q k hb1
  refine ⟨r1, r2, fun o hDD => ?_, fun k' ob' R hk => ?_⟩
  ·rcases hDD with hDD | ⟨rfl, _⟩
   ·exact r3 o hDD
   ·exact absurd e1 (r4 l _ _ hl)
  ·obtain ⟨_, p1, q1, _⟩ := hF.heap k' ob' hk
   exact r4 k' p1 R q1
 ·rcases hDD with hDD | ⟨rfl, _⟩
  ·exact h.kin.dNew b1 o hDD
  ·exact .inr (e2.resolve_left hR)
inductive FrzE (lo l : Nat) (E : TypeId) (ps : List Pu) (env : List (Nat × PV)) : List (Nat × PV) → Prop
 | nil : FrzE lo l E ps env []
 | cons {i : Nat} {v v' : PV} {r : List (Nat × PV)} (h : get env i = some v) (hn : j1 v = false) (e : am4 lo l E ps v = v') (t : FrzE lo l E ps env r) : FrzE lo l E ps env ((i, v') :: r)
inductive FrzH (lo l : Nat) (E : TypeId) (ps : List Pu) (heap : List (Nat × Ob)) : List (Nat × Ob) → Prop
 | nil : FrzH lo l E ps heap []
 | cons {k : Nat} {ob ob' : Ob} {r : List (Nat × Ob)} (hne : Nat.beq k l = false) (h : get heap k = some ob) (e : aD5 lo l E ps ob = some ob') (t : FrzH lo l E ps heap r) : FrzH lo l E ps heap ((k, ob') :: r)
theorem Frozen.of {l : Nat} {E : TypeId} {ps : List Pu} {env env' : List (Nat × PV)} {heap heap' : List (Nat × Ob)} (h1 : FrzE lo l E ps env env') (h2 : FrzH lo l E ps heap heap') : Frozen lo l E ps ⟨env, heap⟩ ⟨env', heap'⟩ := by
 refine ⟨?_, ?_⟩
 ·induction h1 with
  | nil => intro i v h; cases h
  | cons h hn e _ ih =>
   intro i v hv
   simp only at hv
   rw [f8] at hv
   split at hv
   ·rename_i e'
    simp at hv
    subst e' hv;exact ⟨_, h, fun us e2 => by subst e2; simp [j1] at hn, e.symm⟩
   ·exact ih i v hv
 ·induction h2 with
  | nil => intro i v h; cases h
  | cons hne h e _ ih =>
   intro i v hv
   simp only at hv
   rw [f8] at hv
   split at hv
   ·rename_i e'
    simp at hv
    subst e' hv;exact ⟨fun e2 => by subst e2; simp at hne, _, h, e⟩
   ·exact ih i v hv
end
section
variable {P : Program}
def aG2 (P : Program) (e : TypeId) : Bool := match P.underlying e with
 | some (.int _) | some .bool | some .string => true
 | _ => false
def aA4 (P : Program) (t : TypeId) : Bool := decide (t < P.types.size) && match P.underlying t with
 | some (.array _ e) => decide (e < P.types.size) && aG2 P e
 | _ => false
theorem aj7 (hT : j3 P = true) {t : TypeId} (hk : aA4 P t = true) {D : Nat → Nat → Prop} {W w : World} {p : Pu} {x : Value} (hp : PR P D W p x.cells.toList) (hs : d7 x = (PV.pu p).isAgg) (ht : tyP P t p = true) (em : Bool) (d : Nat) : (Instr.checkKey em (d + 2) t x).run P w = .ok () w := by
 unfold aA4 at hk
 simp only [Bool.and_eq_true, decide_eq_true_eq] at hk
 obtain ⟨hlt, hk⟩ := hk
 split at hk
 case h_2 => simp at hk
 rename_i n e hu
 simp only [Bool.and_eq_true, decide_eq_true_eq] at hk
 obtain ⟨hel, hsc⟩ := hk
 have hct := P0 hlt hu
 cases p with
 | leaf v => simp [tyP, hct] at ht
 | sl lo E ps => simp [tyP, hct] at ht
 | agg T ps =>
  cases hp with
  | @agg _ cs _ _ hc hps =>
  simp [tyP, hct] at ht
  obtain rfl := D7 ht hc hct
  cases x <;> simp [d7, PV.isAgg] at hs
  rename_i xs
  simp only [Value.cells] at hps
  rw [Instr.checkKey]
  simp only [Sem.run_bind, run_underlying hu, Result.andThen_ok]
  simp only [Std.Legacy.Range.forIn_eq_forIn_range', Std.Legacy.Range.size, Nat.sub_zero, Nat.add_one_sub_one, Nat.div_one]
  have leafCheck : ∀ (a : Value), d7 a = false → (Instr.checkKey em (d + 1) e a).run P w = .ok () w := fun a ha => by
   unfold aG2 at hsc
   cases hue : P.underlying e with
   | none => simp [hue] at hsc
   | some de =>
    rw [Instr.checkKey]
    simp only [Sem.run_bind, run_underlying hue, Result.andThen_ok]
    cases de <;> simp [hue] at hsc <;> cases a <;> simp_all [d7]
  have hecomp : f7 P e = none := by
   unfold f7
   rw [if_neg (Nat.not_le_of_lt hel)]
   unfold aG2 at hsc
   cases hue : P.underlying e with
   | none => rfl
   | some de => cases de <;> simp [hue] at hsc <;> rfl
  have key : ∀ (n k : Nat) (ps : List Pu) (pre r : List Value), xs.toList = pre ++ r → pre.length = k * P.cellsOf e → PRs P D W (List.replicate n (P.cellsOf e, e)) ps r →
    (forIn (List.range' k n) PUnit.unit fun i _ => do
     Instr.checkKey em (d + 1) e (← part e xs (i * (← Go.sizeOf e)))
     pure (ForInStep.yield PUnit.unit)).run P w = .ok PUnit.unit w := by
   intro n
   induction n with
   | zero => intros; simp
   | succ n ih =>
    intro k ps pre r hx hl hr
    simp only [List.replicate_succ] at hr
    cases hr with
    | @cons _ _ _ p ps x r hp hsx htp hps =>
    obtain ⟨v, e1, e2, e3⟩ := O4 (C := ⟨D, fun _ => none, fun _ => none⟩) (w := w) (w' := W) (pl := none) hT hel hx hl (.pu hp) (by simpa [tyV] using htp)
    have hva : d7 v = false := by
     rw [e3]
     cases p <;> simp_all [tyP, PV.isAgg]
    simp only [List.range'_succ, List.forIn_cons, Sem.run_bind, v5 hT hel, Result.andThen_ok, e1, leafCheck v hva, Sem.run_pure]
    exact ih (k + 1) ps (pre ++ x) r (by simp [hx]) (by simp [hl, hsx, Nat.add_mul]) hps
  have := key n 0 ps [] xs.toList rfl (by simp) hps
  rw [this]
  rfl
def ab3 (P : Program) (t : TypeId) (k : Pu) : List (Pu × PV) → Nat → Option (Option (Nat × PV))
 | [], _ => some none
 | (k', v) :: es, i => match peqT P 100 t k k' with
  | some true => some (some (i, v))
  | some false => ab3 P t k es (i + 1)
  | none => none
theorem J8 (hT : j3 P = true) {t : TypeId} (hlt : t < P.types.size) {C : Cfg} {w w1 : World} {k : Pu} {x : Value} (hp : PR P C.D w k x.cells.toList) (hs : d7 x = (PV.pu k).isAgg) (ht : tyP P t k = true) : ∀ (es : List (Pu × PV)) (en : List MapEntry) (i : Nat) (r : Option (Nat × PV)), MR P C w es en →
  (∀ q ∈ es, tyP P t q.1 = true) → ab3 P t k es i = some r → match r with
   | none => (Instr.findAsking t x en i).run P w1 = .ok none w1
   | some (j, v) => ∃ y, (Instr.findAsking t x en i).run P w1 = .ok (some (j, y)) w1 ∧ VR P C w none v y.cells.toList ∧ d7 y = v.isAgg
 | [], _, i, r, .nil, _, h => by
  simp [ab3] at h
  subst h
  simp [Instr.findAsking]
 | (k', v) :: es, _, i, r, .cons (e := e) (r := en) hk hks hv hvs hm, hty, h => by
  simp only [ab3] at h
  have hb : ∀ b, peqT P 100 t k k' = some b → (Op.equal t x e.key).run P w1 = .ok b w1 := fun b hb =>
   am6 hT 100 t hlt Op.maxDepth (by decide) k k' b x e.key w1 hp hs ht hk hks (hty (k', v) (by simp)) hb
  split at h
  ·rename_i he
   simp at h
   subst h;exact ⟨e.val, by simp [Instr.findAsking, hb true he], hv, hvs⟩
  ·rename_i he
   have ih := J8 (w1 := w1) hT hlt hp hs ht es en (i + 1) r hm (fun q hq => hty q (by simp [hq])) h
   have e1 : (Instr.findAsking t x (e :: en) i).run P w1 = (Instr.findAsking t x en (i + 1)).run P w1 := by simp [Instr.findAsking, hb false he]
   rw [e1];exact ih
  ·simp at h
theorem aD2 {t : TypeId} (h : aA4 P t = true) : (match P.underlying t with | some (.array _ _) | some (.struct _) => true | _ => false) = true ∧ t < P.types.size := by
 unfold aA4 at h
 simp only [Bool.and_eq_true, decide_eq_true_eq] at h
 obtain ⟨h1, h2⟩ := h
 split at h2
 ·rename_i n e hu
  rw [hu];exact ⟨rfl, h1⟩
 ·simp at h2
def bB5 (P : Program) (t K V : TypeId) : Bool := aA4 P K && match P.underlying t with
 | some (.map K' V') => K' == K && V' == V
 | _ => false
class Mp (P : Program) (t : TypeId) (K V : outParam TypeId) : Prop where ok : bB5 P t K V = true
theorem Mp.spec {t K V : TypeId} (h : Mp P t K V) : aA4 P K = true ∧ P.underlying t = some (.map K V) := by
 have := h.ok
 unfold bB5 at this
 simp only [Bool.and_eq_true] at this
 obtain ⟨h1, h2⟩ := this
 split at h2
 ·rename_i K' V' hu
  simp only [Bool.and_eq_true, beq_iff_eq] at h2
  obtain ⟨rfl, rfl⟩ := h2
  exact ⟨h1, hu⟩
 ·simp at h2
theorem aP6 {C : Cfg} {w : World} {l K V : Nat} {x : Value} (h : VW P C w (.mp l K V) x) : ∃ b, x = .map (some b) ∧ C.ρ l = some (b, .map K V) := by
 have hc := h.cell rfl (fun _ => by simp)
 generalize hz : [x] = z at hc
 cases hc with
 | mp hl => simp at hz; exact ⟨_, hz, hl⟩
theorem ag0 {w : World} {r : Nat} {es : Array MapEntry} {clock : Nat} (hb : w.heap[r]? = some (.map es clock)) : (getObj r).run P w = .ok (.map es clock) w := by
 simp [getObj, Sem.run, hb]
theorem aY5 {w : World} {r : Nat} {es : Array MapEntry} {clock : Nat} (o : Obj) (hb : w.heap[r]? = some (.map es clock)) : (setObj r o).run P w = .ok () { w with heap := w.heap.setIfInBounds r o } := by
 simp [setObj, Sem.run, hb]
theorem aJ1 {X : Ctx} {C : Cfg} {st : St} {o : Oper} {a : Act} {w : World} (h : SatC P X C st a w) {t K V : TypeId} {l d : Nat} (hop : o.op = .makeMap t none) (hd : o.dst = some d) (hdn : d < X.n) (hf : Fresh st l) (hL : l ∉ X.L) (hn : get st.heap l = none) :
  Exec P X C st o a w { v := .mp l K V, heap := [(l, .map K V [])] } := by
 have hs := h.new hf hL (ob := .map K V []) (o := .map #[] 0) ⟨#[], 0, alloc_heap_new w _, .nil⟩
 refine m5 (y := .map (some w.heap.size)) ?_ ?_ (aF5 (w' := w.alloc (.map #[] 0)) (C' := C.at l w.heap.size (.map K V)) h hn (Grew.alloc w _) (fun l' hne => by simp [Cfg.at, hne]) _) (fun L d hL => by simp at hL)
 ·obtain ⟨dst, op, type, pos, after, guard⟩ := o
  simp only at hop
  subst hop
  have : (Instr.makeMap t none).run P w = .ok (.map (some w.heap.size)) (w.alloc (.map #[] 0)) := rfl
  simp [execOp, this]
 ·rw [hd]
  exact hs.put hdn (.one (.mp (C := C.at l w.heap.size (.map K V)) (b := w.heap.size) (by simp [Cfg.at])) rfl)
def V1 (P : Program) (S : Seat P) (K V : TypeId) (k : Pu) (es : List (Pu × PV)) : Option (PV × Bool) :=
 match ab3 P K k es 0 with
 | some (some (_, v)) => some (v, true)
 | some none => match S.Z V with
  | some z => some (z, false)
  | none => none
 | none => none
theorem aT4 (S : Seat P) {X : Ctx} {C : Cfg} {st : St} {o : Oper} {a : Act} {w : World} (h : SatC P X C st a w) {t K V : TypeId} [hM : Mp P t K V] {x y : Operand} {ok : Bool} {l : Nat} {k : Pu} {r u : PV} {b : Bool} {es : List (Pu × PV)} (hop : o.op = .lookup t x y ok) (hd : C5 X.n o.dst = true)
  (hx : b9 X.G st.env x = some (.mp l K V)) (hl : get st.heap l = some (.map K V es)) (hy : b9 X.G st.env y = some r) (hr : VImp P (strip r) (.pu k)) (hty : ∀ q ∈ es, tyP P K q.1 = true) (htk : tyP P K k = true) (hg : V1 P S K V k es = some (u, b)) :
  Exec P X C st o a w { v := if ok then .tup [u, bv b] else u } := by
 obtain ⟨hk, hu⟩ := hM.spec
 obtain ⟨hw, hlt⟩ := aD2 hk
 obtain ⟨blk, ex, hρ⟩ := aP6 (h.eval hx)
 obtain ⟨b', e1, _, hor⟩ := h.heap l _ hl
 have hb : b' = blk := by rw [e1] at hρ; simp at hρ; exact hρ.1
 subst hb
 obtain ⟨en, ck, g1, g2⟩ := hor
 obtain ⟨hp, hs⟩ := (hr _ _ _ (h.eval hy)).nt (fun us => by simp)
 have hpr := hp.pu_inv
 have hck := aj7 S.hT hk hpr hs htk en.isEmpty 9998 (w := w)
 have hfk : (Instr.findKey K (a.eval y) en.toList).run P w = (Instr.findAsking K (a.eval y) en.toList).run P w := run_findKey_eq w hw _ _
 have hfin : ∀ (v : Value) (u' : PV), VR P C w none u' v.cells.toList → d7 v = u'.isAgg → ∀ b', VW P C w (if ok then .tup [u', bv b'] else u') (if ok then .tuple #[v, .bool b'] else v) := fun v u' h1 h2 b' => by
  cases ok with
  | true => exact .tup (by
    have : VFs P C w [u', bv b'] [v, .bool b'] := .cons h1 h2 (.cons (.pu (.leaf rfl)) rfl .nil)
    simpa using this)
  | false => exact .one h1 h2
 obtain ⟨dst, op, type, pos, after, guard⟩ := o
 simp only at hop hd
 subst hop
 unfold V1 at hg
 split at hg
 ·rename_i j v hf
  simp at hg
  obtain ⟨rfl, rfl⟩ := hg
  obtain ⟨yv, f1, f2, f3⟩ := J8 (w1 := w) S.hT hlt hpr hs htk es en.toList 0 _ g2 hty hf
  refine m5 (w' := w) (C' := C) (y := if ok then .tuple #[yv, .bool true] else yv) ?_ (h.upd_put (t6 hd) (hfin yv v f2 f3 true) none True) (Tr.refl _ _ _ _) (fun L d hL => by simp at hL)
  simp [execOp, Instr.lookup, run_underlying hu, ex, ag0 g1, hck, hfk, f1]
 ·rename_i hf
  split at hg
  ·rename_i z hz
   simp at hg
   obtain ⟨rfl, rfl⟩ := hg
   have f1 := J8 (w1 := w) S.hT hlt hpr hs htk es en.toList 0 _ g2 hty hf
   obtain ⟨zv, z1, z2, z3, _⟩ := Z5 S hz C w
   refine m5 (w' := w) (C' := C) (y := if ok then .tuple #[zv, .bool false] else zv) ?_ (h.upd_put (t6 hd) (hfin zv z z2 z3 false) none True) (Tr.refl _ _ _ _) (fun L d hL => by simp at hL)
   simp only at f1
   simp [execOp, Instr.lookup, run_underlying hu, ex, ag0 g1, hck, hfk, f1, z1]
  ·simp at hg
 ·simp at hg
theorem MR.push {C : Cfg} {w : World} {k : Pu} {v : PV} {e : MapEntry} (hk : PR P C.D w k e.key.cells.toList) (hks : d7 e.key = (PV.pu k).isAgg) (hv : VR P C w none v e.val.cells.toList) (hvs : d7 e.val = v.isAgg) :
  ∀ {es : List (Pu × PV)} {en : List MapEntry}, MR P C w es en → MR P C w (es ++ [(k, v)]) (en ++ [e])
 | _, _, .nil => .cons hk hks hv hvs .nil
 | _, _, .cons a b c d h => .cons a b c d (MR.push hk hks hv hvs h)
theorem aT5 (S : Seat P) {X : Ctx} {C : Cfg} {st : St} {o : Oper} {a : Act} {w : World} (h : SatC P X C st a w) {t K V : TypeId} [hM : Mp P t K V] {x y z : Operand} {l : Nat} {k : Pu} {r r' u : PV} {es : List (Pu × PV)} (hop : o.op = .mapUpdate t x y z) (hd : o.dst = none)
  (hx : b9 X.G st.env x = some (.mp l K V)) (hl : get st.heap l = some (.map K V es)) (hR : l ∉ X.R) (hy : b9 X.G st.env y = some r) (hr : VImp P (strip r) (.pu k)) (hz : b9 X.G st.env z = some r') (hr' : VImp P (strip r') u) (hnt : j1 u = false) (hty : ∀ q ∈ es, tyP P K q.1 = true) (htk : tyP P K k = true)
  (hg : ab3 P K k es 0 = some none) : Exec P X C st o a w { v := .tup [], heap := [(l, .map K V (es ++ [(k, u)]))] } := by
 obtain ⟨hk, hu⟩ := hM.spec
 obtain ⟨hw, hlt⟩ := aD2 hk
 obtain ⟨blk, ex, hρ⟩ := aP6 (h.eval hx)
 obtain ⟨b', e1, _, hor⟩ := h.heap l _ hl
 have hb : b' = blk := by rw [e1] at hρ; simp at hρ; exact hρ.1
 subst hb
 obtain ⟨en, ck, g1, g2⟩ := hor
 obtain ⟨hp, hs⟩ := (hr _ _ _ (h.eval hy)).nt (fun us => by simp)
 have hpr := hp.pu_inv
 obtain ⟨hv, hvs⟩ := (hr' _ _ _ (h.eval hz)).nt (fun us e => by subst e; simp [j1] at hnt)
 have hck := aj7 S.hT hk hpr hs htk false 9998 (w := w)
 have hfk : (Instr.findKey K (a.eval y) en.toList).run P w = (Instr.findAsking K (a.eval y) en.toList).run P w := run_findKey_eq w hw _ _
 have f1 := J8 (w1 := w) S.hT hlt hpr hs htk es en.toList 0 _ g2 hty hg
 simp only at f1
 let o' : Obj := .map (en.push { key := a.eval y, val := a.eval z, born := ck }) (ck + 1)
 let w' : World := { w with heap := w.heap.setIfInBounds b' o' }
 have hlt' := C8 g1
 have gblk : ∀ b2, b2 ≠ b' → w'.heap[b2]? = w.heap[b2]? := fun b2 hne => by
  simp only [w']
  rw [Array.getElem?_setIfInBounds_ne (fun e => hne e.symm)]
 have gbut : ButBlock b' w w' := ⟨rfl, rfl, rfl, by simp [w'], gblk, fun b2 c E hb2 => by
  by_cases e : b2 = b'
  ·subst e
   rw [g1] at hb2
   cases hb2
  ·exact ⟨c, (gblk b2 e).trans hb2⟩⟩
 have st1 := h.staysBut hl e1 gbut
 have hsat : SatC P X C ⟨st.env, (l, .map K V (es ++ [(k, u)])) :: st.heap⟩ a w' := by
  refine h.write (ob' := .map K V (es ++ [(k, u)])) hl hR e1 rfl gbut st.env rfl rfl (fun _ q _ hq => ⟨q, hq⟩) (fun i u hu => ?_) (fun l' ob1 _ _ => st1 _ _) ⟨en.push { key := a.eval y, val := a.eval z, born := ck }, ck + 1, by simp [w', o', hlt'], ?_⟩ (st1 _ _)
  ·obtain ⟨q, h1, h2⟩ := h.env i u hu
   exact ⟨q, h1, h2.mono (st1 _ _)⟩
  ·rw [Array.toList_push]
   exact MR.push (e := { key := a.eval y, val := a.eval z, born := ck }) (hpr.mono (st1 [] (fun _ => False)).D gbut.ty) hs (hv.mono ((st1 _ _))) hvs (g2.mono (fun k v _ => st1 _ _) (st1 _ _))
 refine ad3 (C' := C) (w' := w') ?_ (by rw [hd]; exact hsat) (as2 (ob' := .map K V (es ++ [(k, u)])) h hl rfl (fun b R hbR => ?_) _ rfl) (fun L d hL => by simp at hL)
 ·obtain ⟨dst, op, type, pos, after, guard⟩ := o
  simp only at hop
  subst hop
  simp [execOp, Instr.mapUpdate, run_underlying hu, ex, ag0 g1, hck, hfk, f1, aY5 _ g1, w', o']
 ·rw [e1] at hbR
  simp at hbR
  rw [← hbR.1];exact gbut
end
section
variable {P : Program} {X : Ctx} {ops : Array Oper} {st : St} {env : List (Nat × PV)} {heap : List (Nat × Ob)}
variable {dr : Bool} {s0 : St} {K : St → Prop} {dn : List Item} {rest : List Oper} {d : Nat} {ty : TypeId} {pos : String} {after : Array Edge} {g : Bool}
theorem aF7 {t KT VT : TypeId} [Mp P t KT VT] (l : Nat) (hd : lb d X.n = true)
  (c : WalkR P X ops dr s0 K (dn ++ [⟨⟨some d, .makeMap t none, ty, pos, after, none⟩, { v := .mp l KT VT, heap := [(l, .map KT VT [])] }, { news := [l], labs := [l] }⟩]) ⟨(d, .mp l KT VT) :: env, (l, .map KT VT []) :: heap⟩ rest) :
  WalkR P X ops dr s0 K dn ⟨env, heap⟩ (⟨some d, .makeMap t none, ty, pos, after, none⟩ :: rest) := by
 refine WalkR.cons ⟨fun l' h => ?_, fun L h => by simp at h, fun st' ha hn C a w hs _ => ?_⟩ c
 ·simpa [PV.labs, Ob.labs, PV.labsL] using h
 ·obtain ⟨h1, h2, h3⟩ := hn l (by simp)
  exact .of ((Guard.none rfl).wanted hs) (aJ1 hs rfl rfl (F6 hd) h1 h3 h2)
theorem ag7 (S : Seat P) {t KT VT : TypeId} [hM : Mp P t KT VT] {x y : Operand} {ok : Bool} {l : Nat} {k : Pu} {r u : PV} {b : Bool} {es : List (Pu × PV)} (hx : b9 X.G st.env x = some (.mp l KT VT)) (hl : get st.heap l = some (.map KT VT es)) (hy : b9 X.G st.env y = some r) (hr : VImp P (strip r) (.pu k))
  (hty : ∀ q ∈ es, tyP P KT q.1 = true) (htk : tyP P KT k = true) (hg : V1 P S KT VT k es = some (u, b)) : ValG P X st (.lookup t x y ok) g (if ok then .tup [u, bv b] else u) { reads := c9 [x, y], hreads := [l] } :=
 ⟨fun _ st' ha C a w hs o ho hd => by
  have hx' : b9 X.G st'.env x = some (.mp l KT VT) := by
   rw [d5 (env := st.env) fun t e => ha.env t (f0 (by rw [e]; simp))];exact hx
  have hy' : b9 X.G st'.env y = some r := by
   rw [d5 (env := st.env) fun t e => ha.env t (f0 (by rw [e]; simp))];exact hy
  exact aT4 S hs ho hd hx' ((ha.heap l (by simp)).trans hl) hy' hr hty htk hg⟩
theorem an4 (S : Seat P) {t KT VT : TypeId} [hM : Mp P t KT VT] {x y z : Operand} {l : Nat} {k : Pu} {r r' u : PV} {es : List (Pu × PV)} (hx : b9 X.G env x = some (.mp l KT VT)) (hl : get heap l = some (.map KT VT es)) (hR : X.R.contains l = false) (hy : b9 X.G env y = some r) (hr : VImp P (strip r) (.pu k)) (hz : b9 X.G env z = some r') (hr' : VImp P (strip r') u)
  (hnt : j1 u = false) (hty : ∀ q ∈ es, tyP P KT q.1 = true) (htk : tyP P KT k = true) (hg : ab3 P KT k es 0 = some none) {labs : List Nat} (hlab : ∀ l' ∈ (Ob.map KT VT (es ++ [(k, u)])).labs, l' ∈ labs)
  (c : WalkR P X ops dr s0 K (dn ++ [⟨⟨none, .mapUpdate t x y z, ty, pos, after, none⟩, { v := .tup [], heap := [(l, .map KT VT (es ++ [(k, u)]))] }, { reads := c9 [x, y, z], hreads := [l], labs := labs }⟩]) ⟨env, (l, .map KT VT (es ++ [(k, u)])) :: heap⟩ rest) :
  WalkR P X ops dr s0 K dn ⟨env, heap⟩ (⟨none, .mapUpdate t x y z, ty, pos, after, none⟩ :: rest) := by
 refine WalkR.cons ⟨fun l' h => ?_, fun L h => by simp at h, fun st' ha hn C a w hs _ => ?_⟩ c
 ·refine hlab l' ?_
  simpa [PV.labs, PV.labsL] using h
 ·have hx' : b9 X.G st'.env x = some (.mp l KT VT) := by
   rw [d5 (env := env) fun t e => ha.env t (f0 (by rw [e]; simp))];exact hx
  have hy' : b9 X.G st'.env y = some r := by
   rw [d5 (env := env) fun t e => ha.env t (f0 (by rw [e]; simp))];exact hy
  have hz' : b9 X.G st'.env z = some r' := by
   rw [d5 (env := env) fun t e => ha.env t (f0 (by rw [e]; simp))];exact hz
  exact .of ((Guard.none rfl).wanted hs) (aT5 S hs rfl rfl hx' ((ha.heap l (by simp)).trans hl) (aP2 hR) hy' hr hz' hr' hnt hty htk hg)
theorem bV5 (S : Seat P) {f : Fn} {first captured : Array Operand} {vs : List PV} {u : PV} (h : EvL X st.env g (first.toList ++ captured.toList) vs) (hu : bM3 f (vs.take first.size) (vs.drop first.size) = some u) : ValG P X st (.makeFunc f first captured) g u { reads := c9 (first.toList ++ captured.toList) } := by
 have := ValG.pure (P := P) (X := X) (st := st) S (op := .makeFunc f first captured) (g := g) (vs := vs) (u := u) (by simpa [Op.operands] using h) (by simp [y7, hu])
 simpa [Op.operands] using this
theorem Z0 (S : Seat P) {s t : TypeId} {x : Operand} {v u : PV} (h : Ev X st.env g x v := by first | (focus (apply Ev.mk; exact rfl; (repeat constructor); done)) | (focus (apply Ev.gd; exact rfl; (repeat constructor); done)) | (focus (apply Ev.left; exact rfl; (repeat constructor); done)) | (focus (apply Ev.left2; exact rfl; (repeat constructor); done))) (hu : X2 P s t v = some u) : ValG P X st (.convert s t x) g u { reads := c9 [x] } :=
 ValG.pure S (.cons h .nil) (by simp [y7, hu])
theorem cc1 {x y : Operand} {ts : Array TypeId} {k : IntKind} {a b : Int} (hx : b9 X.G st.env x = some (iv k a)) (hy : b9 X.G st.env y = some (iv k b)) : ValG P X st (.call ⟨.builtin .min, #[x, y], ts⟩) g (iv k (if b < a then b else a)) { reads := c9 [x, y] } :=
 ⟨fun _ st' ha C a' w hs o ho hd => by
  have hx' : b9 X.G st'.env x = some (iv k a) := by
   rw [d5 (env := st.env) fun t e => ha.env t (f0 (by rw [e]; simp))];exact hx
  have hy' : b9 X.G st'.env y = some (iv k b) := by
   rw [d5 (env := st.env) fun t e => ha.env t (f0 (by rw [e]; simp))];exact hy
  have ex := (hs.eval hx').leaf_inv.1
  have ey := (hs.eval hy').leaf_inv.1
  refine m5 (w' := w) (C' := C) (y := .int k (if b < a then b else a)) ?_ (hs.upd_put (t6 hd) VW.iv_mk none True) (Tr.refl _ _ _ _) (fun L d hL => by simp at hL)
  obtain ⟨dst, op, type, pos, after, guard⟩ := o
  simp only at ho
  subst ho
  simp [execOp, resolve, invoke, builtin, ex, ey, Builtin.min_, Builtin.min2]⟩
theorem A0 {fo : Operand} {as : Array Operand} {ts : Array TypeId} {f : FuncId} {vf r : PV} {vs first captured args : List PV} {HR H H' : List (Nat × Ob)} {v : PV} {news : List Nat} (hfo : b9 X.G env fo = some r) (hs : Str r vf) (hfv : fnV vf = some (f, first, captured)) (he : j8 P f = true) (h : EvL X env true as.toList vs)
  (hn : vs.any j1 = false) (himp : VImps P (first ++ vs ++ captured) args) (hn' : args.any j1 = false) (hHR : ∀ l ob, get HR l = some ob → ∃ ob1, get heap l = some ob1 ∧ ObImp P ob1 ob) (hH : ∀ l ob, get H l = some ob → l ∉ X.R ∧ ∃ ob1, get heap l = some ob1 ∧ ObImp P ob1 ob)
  (hc : HCall P X.G f args HR H v H' news) (hd : lb d X.n = true)
  (c : WalkR P X ops dr s0 K (dn ++ [⟨⟨some d, .call ⟨.value fo, as, ts⟩, ty, pos, after, none⟩, { v := v, heap := H' }, { reads := c9 (fo :: as.toList), hreads := e9 HR ++ e9 H, news := news, labs := v.labs ++ u4 H' }⟩]) ⟨(d, v) :: env, H' ++ heap⟩ rest) :
  WalkR P X ops dr s0 K dn ⟨env, heap⟩ (⟨some d, .call ⟨.value fo, as, ts⟩, ty, pos, after, none⟩ :: rest) := by
 obtain ⟨raw, h1, h2⟩ := h.raw rfl
 exact WalkR.cons (bt2 (P := P) (X := X) (ops := ops) (st := ⟨env, heap⟩) (o := ⟨some d, .call ⟨.value fo, as, ts⟩, ty, pos, after, none⟩) (raw := raw) rfl rfl hfo (by rw [hs.eq]; exact hfv) he h1 (by rw [h2]; exact hn) (by rw [h2]; exact himp) hn' hHR hH hc (by simp [C5, F6 hd])) c
theorem bI8 {fo : Operand} {as : Array Operand} {ts : Array TypeId} {f : FuncId} {vf : PV} {vs first captured args : List PV} {HR : List (Nat × Ob)} {v : PV} (hfo : Ev X st.env g fo vf := by first | (focus (apply Ev.mk; exact rfl; (repeat constructor); done)) | (focus (apply Ev.gd; exact rfl; (repeat constructor); done)) | (focus (apply Ev.left; exact rfl; (repeat constructor); done)) | (focus (apply Ev.left2; exact rfl; (repeat constructor); done))) (hfv : fnV vf = some (f, first, captured)) (he : j8 P f = true) (h : EvL X st.env g as.toList vs) (hn : vs.any j1 = false) (himp : VImps P (first ++ vs ++ captured) args)
  (hn' : args.any j1 = false) (hHR : ∀ l ob, get HR l = some ob → ∃ ob1, get st.heap l = some ob1 ∧ ObImp P ob1 ob) (hc : g = true → HCall P X.G f args HR [] v [] []) : ValG P X st (.call ⟨.value fo, as, ts⟩) g v { reads := c9 (fo :: as.toList), hreads := e9 HR } := ⟨fun hg st' ha C a w hs o ho hd => by
 obtain ⟨raw, h1, h2⟩ := h.raw hg
 obtain ⟨r, h3, h4⟩ := hfo hg
 have h1' : evalL X.G st'.env as.toList = some raw := by
  rw [u6 (env := st.env) fun t ht => ha.env t (by
   unfold c9 at *
   rw [List.filterMap_cons]
   split
   ·exact ht
   ·exact List.mem_cons_of_mem _ ht)]
  exact h1
 have h3' : b9 X.G st'.env fo = some r := by
  rw [d5 (env := st.env) fun t e => ha.env t (f0 (by rw [e]; simp))];exact h3
 exact ad4 (HR := HR) (H := []) (news := []) hs ho h3' (by rw [h4]; exact hfv) he h1' (by rw [h2]; exact hn) (by rw [h2]; exact himp) hn' (fun l ob hl => by
  obtain ⟨ob1, k1, k2⟩ := hHR l ob hl
  exact ⟨ob1, by rw [ha.heap l (m4 hl)]; exact k1, k2⟩) (fun l ob hl => by cases hl) (hc hg) (fun l hl => by cases hl) hd⟩
theorem aY1 {j : Nat} {want : Bool} {fo : Operand} {as : Array Operand} {ts : Array TypeId} {f : FuncId} {vf : PV} {vs first captured args : List PV} {HR H H' : List (Nat × Ob)} {v : PV}
  (hg : Guard ops ⟨env, heap⟩ ⟨some d, .call ⟨.value fo, as, ts⟩, ty, pos, after, some (j, want)⟩ g) (hfo : Ev X env g fo vf) (hfv : fnV vf = some (f, first, captured)) (he : j8 P f = true) (h : EvL X env g as.toList vs)
  (hn : vs.any j1 = false) (himp : VImps P (first ++ vs ++ captured) args) (hn' : args.any j1 = false) (hHR : ∀ l ob, get HR l = some ob → ∃ ob1, get heap l = some ob1 ∧ ObImp P ob1 ob) (hH : ∀ l ob, get H l = some ob → l ∉ X.R ∧ ∃ ob1, get heap l = some ob1 ∧ ObImp P ob1 ob)
  (hc : g = true → HCall P X.G f args HR H v H' []) (h0 : g = false → SubH heap H') (hd : lb d X.n = true)
  (c : WalkR P X ops dr s0 K (dn ++ [⟨⟨some d, .call ⟨.value fo, as, ts⟩, ty, pos, after, some (j, want)⟩, { v := gd g v, heap := H' }, { reads := I5 ops ⟨some d, .call ⟨.value fo, as, ts⟩, ty, pos, after, some (j, want)⟩ ++ c9 (fo :: as.toList), hreads := e9 HR ++ e9 H ++ e9 H', labs := v.labs ++ u4 H' }⟩]) ⟨(d, gd g v) :: env, H' ++ heap⟩ rest) :
  WalkR P X ops dr s0 K dn ⟨env, heap⟩ (⟨some d, .call ⟨.value fo, as, ts⟩, ty, pos, after, some (j, want)⟩ :: rest) := by
 refine WalkR.cons ⟨fun l hl => ?_, fun L hL => by simp at hL, fun st' ha hnw C a w hs _ => ?_⟩ c
 ·simp only [List.mem_append]
  rcases hl with hl | ⟨q, hq, _⟩ | ⟨q, hq, hl⟩
  ·exact .inl (aI1 hl)
  ·cases hq
  ·exact .inr (J6 hq hl)
 ·have hdo : C5 X.n (some d) = true := by simp [C5, F6 hd]
  have hg' := hg.congr (ae0 ha fun t ht => by simp [ht])
  have hw := hg'.wanted hs
  intro K' Q hK
  cases hgv : g with
  | true =>
   subst hgv
   obtain ⟨raw, h1, h2⟩ := h.raw rfl
   obtain ⟨r, h3, h4⟩ := hfo rfl
   have h1' : evalL X.G st'.env as.toList = some raw := by
    rw [u6 (env := env) fun t ht => ha.env t (by
     refine List.mem_append_right _ ?_
     unfold c9 at *
     rw [List.filterMap_cons]
     split
     ·exact ht
     ·exact List.mem_cons_of_mem _ ht)]
    exact h1
   have h3' : b9 X.G st'.env fo = some r := by
    rw [d5 (env := env) fun t e => ha.env t (List.mem_append_right _ (f0 (by rw [e]; simp)))];exact h3
   rw [if_pos hw]
   refine fun hnd => N5 hnd ?_
   refine ad4 (HR := HR) (H := H) (H' := H') (v := v) (news := []) hs rfl h3' (by rw [h4]; exact hfv) he h1' (by rw [h2]; exact hn) (by rw [h2]; exact himp) hn' (fun l ob hl => ?_) (fun l ob hl => ?_) (hc rfl) (fun l hl => by cases hl) hdo K' Q hK
   ·obtain ⟨ob1, k1, k2⟩ := hHR l ob hl
    exact ⟨ob1, by rw [ha.heap l (by simp only [List.mem_append]; exact .inl (.inl (m4 hl)))]; exact k1, k2⟩
   ·obtain ⟨k0, ob1, k1, k2⟩ := hH l ob hl
    exact ⟨k0, ob1, by rw [ha.heap l (by simp only [List.mem_append]; exact .inl (.inr (m4 hl)))]; exact k1, k2⟩
  | false =>
   subst hgv;rw [if_neg (by rw [hw]; simp)]
   have hsub := (h0 rfl).le
   refine hK C undef w ?_ ⟨fun _ _ _ => rfl, fun _ _ _ _ _ _ _ => rfl⟩ (fun L d hL => by simp at hL);refine (aB8 hs hdo).same ⟨fun _ => rfl, fun l => ?_⟩
   show get st'.heap l = get (H' ++ st'.heap) l
   rw [c8]
   cases hgl : get H' l with
   | none => simp
   | some ob =>
    have := hsub l ob hgl
    rw [ha.heap l (by simp only [List.mem_append]; exact .inr (m4 hgl))]
    simpa using this
end
section
variable {P : Program} {lo : Nat} {X : Ctx} {ops : Array Oper} {st : St} {env : List (Nat × PV)} {heap : List (Nat × Ob)}
variable {dr : Bool} {s0 : St} {K : St → Prop} {dn : List Item} {rest : List Oper} {d : Nat} {ty : TypeId} {pos : String} {after : Array Edge} {g : Bool}
class TyV (P : Program) (T : TypeId) (v : PV) : Prop where ok : tyV P T v = true
class Sz (P : Program) (T : TypeId) : Prop where ok : (f7 P T).isSome = true ∨ P.cellsOf T = 1
class Zr {P : Program} (S : Seat P) (T : TypeId) (u : outParam PV) : Prop where ok : S.Z T = some u
theorem Sc.none {T : TypeId} (h : Sc P T) : (f7 P T).isNone = true := h.spec.2.1
instance {T : TypeId} [h : Sc P T] : Sz P T := ⟨.inr h.spec.2.2⟩
instance {T : TypeId} [h : Ag P T] : Sz P T := ⟨.inl h.ok⟩
instance {T : TypeId} {v : Value} [h : Sc P T] : TyV P T (.pu (.leaf v)) := ⟨h.none⟩
instance {T E : TypeId} {ps : List Pu} [h : Sc P T] : TyV P T (.pu (.sl lo E ps)) := ⟨h.none⟩
instance {T l T' : TypeId} {p : List Nat} [h : Sc P T] : TyV P T (.ptr l p T') := ⟨h.none⟩
instance {T l E o n : TypeId} [h : Sc P T] : TyV P T (.arr l E o n) := ⟨h.none⟩
instance {T l KT VT : TypeId} [h : Sc P T] : TyV P T (.mp l KT VT) := ⟨h.none⟩
instance {T : TypeId} [h : Sc P T] : TyV P T .nilc := ⟨h.none⟩
instance {T E : TypeId} {ps : List Pu} [h : Sc P T] : TyV P T (.xs lo E ps) := ⟨h.none⟩
instance {T : TypeId} {f : Fn} {a b : List PV} [h : Sc P T] : TyV P T (.fn f a b) := ⟨h.none⟩
theorem bl3 {T : TypeId} (h : Ag P T) : ((f7 P T).isSome && P.underlyingId T == P.underlyingId T) = true := by
 have := h.ok
 unfold bU8 at this
 simp [this]
instance {T : TypeId} {ps : List Pu} [h : Ag P T] : TyV P T (.pu (.agg T ps)) := ⟨bl3 h⟩
instance {T : TypeId} {vs : List PV} [h : Ag P T] : TyV P T (.agg T vs) := ⟨bl3 h⟩
instance {T : TypeId} {k : IntKind} {n : Int} [Sc P T] : TyV P T (iv k n) := inferInstanceAs (TyV P T (.pu (.leaf _)))
instance {T : TypeId} {b : Bool} [Sc P T] : TyV P T (bv b) := inferInstanceAs (TyV P T (.pu (.leaf _)))
theorem Sz.two {T T' : TypeId} (h : Sz P T) (h' : Sz P T') (ho : Okt P T T') : (f7 P T).isSome = true ∨ P.cellsOf T = 1 ∧ P.cellsOf T' = 1 := by
 have e := (v9 ho.ok).1
 rcases h.ok with h1 | h1
 ·exact .inl h1
 ·rcases h'.ok with h2 | h2
  ·exact .inl (by rw [e]; exact h2)
  ·exact .inr ⟨h1, h2⟩
theorem bW3 (S : Seat P) {T : TypeId} {x : Operand} {r u : PV} (l : Nat) (hx : b9 X.G env x = some r) (hs : Str r u) [hty : TyV P T u] [h1 : Sz P T] (hlu : u.labs.contains l = false) (hd : lb d X.n = true)
  (t : WalkR P X ops dr s0 K (dn ++ [⟨⟨some d, .box T x, ty, pos, after, none⟩, { v := .ptr l [] T, heap := [(l, .var T u)] }, { reads := c9 [x], news := [l], labs := l :: u.labs }⟩]) ⟨(d, .ptr l [] T) :: env, (l, .var T u) :: heap⟩ rest) :
  WalkR P X ops dr s0 K dn ⟨env, heap⟩ (⟨some d, .box T x, ty, pos, after, none⟩ :: rest) := bw8 S l hx hs hty.ok h1.ok (bh1 hlu) hd t
theorem bx0 (S : Seat P) {T : TypeId} {u : PV} (l : Nat) [hz : Zr S T u] (hlu : u.labs = []) (hd : lb d X.n = true)
  (t : WalkR P X ops dr s0 K (dn ++ [⟨⟨some d, .alloc T, ty, pos, after, none⟩, { v := .ptr l [] T, heap := [(l, .var T u)] }, { news := [l], labs := [l] }⟩]) ⟨(d, .ptr l [] T) :: env, (l, .var T u) :: heap⟩ rest) :
  WalkR P X ops dr s0 K dn ⟨env, heap⟩ (⟨some d, .alloc T, ty, pos, after, none⟩ :: rest) := aY2 S l hz.ok hlu hd t
theorem bw9 (S : Seat P) {x y : Operand} {T T' : TypeId} {l : Nat} {p : List Nat} {ob ob' : Ob} {r u u0 : PV} [hO : Okt P T T'] (hx : b9 X.G env x = some (.ptr l p T')) (hy : b9 X.G env y = some r) (hs : Str r u) (hl : get heap l = some ob) (hR : X.R.contains l = false) (hget : ob.get p = some u0)
  [hty : TyV P T u] [h1 : Sz P T] [h2 : Sz P T'] (hset : ob.set p u = some ob')
  (t : WalkR P X ops dr s0 K (dn ++ [⟨⟨none, .store T x y, ty, pos, after, none⟩, { v := .tup [], heap := [(l, ob')] }, { reads := c9 [x, y], hreads := [l], labs := ob'.labs }⟩]) ⟨env, (l, ob') :: heap⟩ rest) :
  WalkR P X ops dr s0 K dn ⟨env, heap⟩ (⟨none, .store T x y, ty, pos, after, none⟩ :: rest) := aY0 S hx hy hs hl hR hget hty.ok (h1.two h2 hO) hset t
theorem ah3 (cs : List (Nat × TypeId)) : ∀ (vs : List PV) (k : Nat) (pre rest : List PV), pre.length = k → rest.length = vs.length → (∀ i v, vs[i]? = some v → ∃ s t, cs[k + i]? = some (s, t) ∧ tyV P t v = true) →
  B7 P cs (pre ++ rest) ((List.range' k vs.length).zip vs) = some (pre ++ vs)
 | [], k, pre, rest, hk, hr, _ => by
  have : rest = [] := List.length_eq_zero_iff.1 (by simpa using hr)
  subst this
  simp [B7]
 | v :: vs, k, pre, rest, hk, hr, h => by
  obtain ⟨r, rest, rfl⟩ : ∃ r rs, rest = r :: rs := by
   cases rest with
   | nil => simp at hr
   | cons r rs => exact ⟨r, rs, rfl⟩
  obtain ⟨s, t, h1, h2⟩ := h 0 v rfl
  simp only [List.length_cons, List.range'_succ, List.zip_cons_cons, B7]
  rw [Nat.add_zero] at h1
  rw [h1]
  simp only [h2, if_true]
  have e : (pre ++ r :: rest).set k v = (pre ++ [v]) ++ rest := by
   rw [List.set_append_right k v (by omega)]
   simp [hk]
  rw [e]
  have ih := ah3 cs vs (k + 1) (pre ++ [v]) rest (by simp [hk]) (by simpa using hr) fun i u hi => by
   obtain ⟨s, t, h1, h2⟩ := h (i + 1) u (by simpa using hi)
   exact ⟨s, t, by rw [show k + 1 + i = k + (i + 1) by omega]; exact h1, h2⟩
  rw [ih]
  simp
def cg9 (P : Program) (T : TypeId) (Ts : List TypeId) : Bool := match f7 P T with
 | some cs => cs.map (·.2) == Ts
 | none => false
class AgT (P : Program) (T : TypeId) (Ts : outParam (List TypeId)) : Prop where ok : cg9 P T Ts = true
theorem AgT.spec {T : TypeId} {Ts : List TypeId} (h : AgT P T Ts) : ∃ cs, f7 P T = some cs ∧ cs.map (·.2) = Ts := by
 have := h.ok
 unfold cg9 at this
 split at this
 ·rename_i cs hc
  exact ⟨cs, hc, by simpa using this⟩
 ·simp at this
theorem bu1 (ps : List Pu) : X3 (ps.map PV.pu) = some ps := by
 induction ps with
 | nil => rfl
 | cons p ps ih => simp [X3, ih]
theorem ao9 (S : Seat P) {T E : TypeId} [hS : Sl P T E] {u : PV} [hz : Zr S E u] {ps : List Pu} (h : ∀ p ∈ ps, TyV P E (.pu p)) {n : Nat} (hn : n = ps.length) {is : List Nat} (hi : is = List.range ps.length) (hfit : Nat.ble (n * P.cellsOf E) 16777216 = true) : aj8 P S lo T n (is.zip (ps.map .pu)) = some (.xs lo E ps) := by
 obtain ⟨h1, h2⟩ := hS.spec
 unfold aj8
 rw [h2]
 simp only [hz.ok]
 have := ah3 (P := P) (List.replicate n (P.cellsOf E, E)) (ps.map .pu) 0 [] (List.replicate n u) rfl (by simp [hn]) fun i v hi => by
  rw [List.getElem?_map] at hi
  cases hp : ps[i]? with
  | none => simp [hp] at hi
  | some p =>
   simp [hp] at hi
   subst hi
   have hlt : i < ps.length := (List.getElem?_eq_some_iff.1 hp).1
   exact ⟨P.cellsOf E, E, by rw [Nat.zero_add, List.getElem?_replicate]; simp [hn, hlt], (h p (List.mem_of_getElem? hp)).ok⟩
 rw [List.nil_append, List.nil_append] at this
 rw [hi, List.range_eq_range']
 rw [List.length_map] at this
 rw [this]
 simp only [bu1]
 rw [if_pos ⟨h1, Nat.le_of_ble_eq_true hfit⟩]
end
section
variable {P : Program} {lo : Nat} {X : Ctx} {ops : Array Oper} {st : St} {env : List (Nat × PV)} {heap : List (Nat × Ob)}
variable {dr : Bool} {s0 : St} {K : St → Prop} {dn : List Item} {rest : List Oper} {d : Nat} {ty : TypeId} {pos : String} {after : Array Edge} {g : Bool}
theorem b5 {op : Op} {u : PV} {r hr : List Nat} (h : ValG P X ⟨env, heap⟩ op true u { reads := r, hreads := hr })
  (t : WalkR P X ops dr s0 K (dn ++ [⟨⟨some d, op, ty, pos, after, none⟩, { v := u }, { reads := r, hreads := hr, labs := u.labs }⟩]) ⟨(d, u) :: env, heap⟩ rest) (hd : lb d X.n = true := by rfl) : WalkR P X ops dr s0 K dn ⟨env, heap⟩ (⟨some d, op, ty, pos, after, none⟩ :: rest) := bw7 hd h t
theorem q8 {op : Op} {u : PV} {j : Nat} {want g : Bool} {r hr : List Nat} (hg : Guard ops ⟨env, heap⟩ ⟨some d, op, ty, pos, after, some (j, want)⟩ g) (h : ValG P X ⟨env, heap⟩ op g u { reads := r, hreads := hr })
  (t : WalkR P X ops dr s0 K (dn ++ [⟨⟨some d, op, ty, pos, after, some (j, want)⟩, { v := gd g u }, { reads := I5 ops ⟨some d, op, ty, pos, after, some (j, want)⟩ ++ r, hreads := hr, labs := u.labs }⟩]) ⟨(d, gd g u) :: env, heap⟩ rest)
  (hd : lb d X.n = true := by rfl) :
  WalkR P X ops dr s0 K dn ⟨env, heap⟩ (⟨some d, op, ty, pos, after, some (j, want)⟩ :: rest) := bm9 hd hg h t
theorem bX1 (S : Seat P) {s : Nat} {r u : PV} (t : WalkR P X ops dr s0 K (dn ++ [⟨⟨some d, .move (.tmp s), ty, pos, after, none⟩, { v := u, src := some (.slot s) }, { reads := [s], labs := u.labs }⟩]) ⟨(d, u) :: env, heap⟩ rest) (hx : get env s = some r := by rfl) (hs : Str r u := by repeat constructor) (hne : Nat.beq d s = false := by rfl) (hd : lb d X.n = true := by rfl) :
  WalkR P X ops dr s0 K dn ⟨env, heap⟩ (⟨some d, .move (.tmp s), ty, pos, after, none⟩ :: rest) := bn0 S hx hs (fun e => by subst e; simp at hne) hd t
theorem bX2 (S : Seat P) {x : Operand} {T T' : TypeId} {l : Nat} {p : List Nat} {ob : Ob} {r u : PV} [hO : Okt P T T'] [hc : Sc P T]
  (t : WalkR P X ops dr s0 K (dn ++ [⟨⟨some d, .load T x, ty, pos, after, none⟩, { v := u, src := some (.obj l p) }, { reads := c9 [x], hreads := [l], labs := u.labs }⟩]) ⟨(d, u) :: env, heap⟩ rest)
  (hx : b9 X.G env x = some (.ptr l p T') := by rfl) (hl : get heap l = some ob := by rfl) (hget : ob.get p = some r := by rfl) (hs : Str r u := by repeat constructor) (hd : lb d X.n = true := by rfl) : WalkR P X ops dr s0 K dn ⟨env, heap⟩ (⟨some d, .load T x, ty, pos, after, none⟩ :: rest) := bn2 S hx hl hget hs hd t
theorem o9 (S : Seat P) {T : TypeId} {x : Operand} {r u : PV} (l : Nat) [hty : TyV P T u] [h1 : Sz P T]
  (t : WalkR P X ops dr s0 K (dn ++ [⟨⟨some d, .box T x, ty, pos, after, none⟩, { v := .ptr l [] T, heap := [(l, .var T u)] }, { reads := c9 [x], news := [l], labs := l :: u.labs }⟩]) ⟨(d, .ptr l [] T) :: env, (l, .var T u) :: heap⟩ rest)
  (hx : b9 X.G env x = some r := by rfl) (hs : Str r u := by repeat constructor) (hlu : u.labs.contains l = false := by rfl) (hd : lb d X.n = true := by rfl) : WalkR P X ops dr s0 K dn ⟨env, heap⟩ (⟨some d, .box T x, ty, pos, after, none⟩ :: rest) := bW3 S l hx hs hlu hd t
theorem a8 (S : Seat P) {T : TypeId} {u : PV} (l : Nat) [hz : Zr S T u]
  (t : WalkR P X ops dr s0 K (dn ++ [⟨⟨some d, .alloc T, ty, pos, after, none⟩, { v := .ptr l [] T, heap := [(l, .var T u)] }, { news := [l], labs := [l] }⟩]) ⟨(d, .ptr l [] T) :: env, (l, .var T u) :: heap⟩ rest) (hlu : u.labs = [] := by rfl) (hd : lb d X.n = true := by rfl) :
  WalkR P X ops dr s0 K dn ⟨env, heap⟩ (⟨some d, .alloc T, ty, pos, after, none⟩ :: rest) := bx0 S l hlu hd t
theorem ap8 (S : Seat P) {x y : Operand} {T T' : TypeId} {l : Nat} {p : List Nat} {ob ob' : Ob} {r u u0 : PV} [hO : Okt P T T'] [hty : TyV P T u] [h1 : Sz P T] [h2 : Sz P T']
  (t : WalkR P X ops dr s0 K (dn ++ [⟨⟨none, .store T x y, ty, pos, after, none⟩, { v := .tup [], heap := [(l, ob')] }, { reads := c9 [x, y], hreads := [l], labs := ob'.labs }⟩]) ⟨env, (l, ob') :: heap⟩ rest)
  (hx : b9 X.G env x = some (.ptr l p T') := by rfl) (hy : b9 X.G env y = some r := by rfl) (hs : Str r u := by repeat constructor) (hl : get heap l = some ob := by rfl) (hR : X.R.contains l = false := by rfl) (hget : ob.get p = some u0 := by rfl) (hset : ob.set p u = some ob' := by rfl) :
  WalkR P X ops dr s0 K dn ⟨env, heap⟩ (⟨none, .store T x y, ty, pos, after, none⟩ :: rest) := bw9 S hx hy hs hl hR hget hset t
theorem bo4 (S : Seat P) {x : Operand} {s : Nat} {T T' : TypeId} {l : Nat} {p : List Nat} {ob ob' : Ob} {u0 : PV} {E : TypeId} {ps : List Pu} [hO : Okt P T T'] [hc : Sc P T] [hc' : Sc P T']
  (t : WalkR P X ops dr s0 K (dn ++ [⟨⟨none, .store T x (.tmp s), ty, pos, after, none⟩, { v := .tup [], env := [(s, .pu (.sl lo E ps))], heap := [(l, ob')] }, { reads := c9 [x, .tmp s], hreads := [l], labs := ob'.labs }⟩]) ⟨(s, .pu (.sl lo E ps)) :: env, (l, ob') :: heap⟩ rest)
  (hx : b9 X.G env x = some (.ptr l p T') := by rfl) (hsv : get env s = some (.ow lo E ps) := by rfl) (hl : get heap l = some ob := by rfl) (hR : X.R.contains l = false := by rfl) (hget : ob.get p = some u0 := by rfl) (hset : ob.set p (.ow lo E ps) = some ob' := by rfl) :
  WalkR P X ops dr s0 K dn ⟨env, heap⟩ (⟨none, .store T x (.tmp s), ty, pos, after, none⟩ :: rest) := aF6 S hx hsv hl hR hget hset t
theorem aZ1 {s : Nat} {E : TypeId} {ps : List Pu}
  (t : WalkR P X ops dr s0 K (dn ++ [⟨⟨some d, .assign (.tmp s), ty, pos, after, none⟩, { v := .ow lo E ps, env := [(s, .pu (.sl lo E ps))] }, { reads := [s] }⟩]) ⟨(d, .ow lo E ps) :: (s, .pu (.sl lo E ps)) :: env, heap⟩ rest) (hs : get env s = some (.ow lo E ps) := by rfl) (hsd : Nat.beq s d = false := by rfl) (hd : lb d X.n = true := by rfl) :
  WalkR P X ops dr s0 K dn ⟨env, heap⟩ (⟨some d, .assign (.tmp s), ty, pos, after, none⟩ :: rest) := aA0 hs (fun e => by subst e; simp at hsd) hd t
theorem aZ2 {x y : Operand} {tt E : TypeId} {B : Nat} {u v : PV} {ps ys : List Pu} [hE : El P tt E B] (hfit : (ps.length + ys.length) * B ≤ 70368744177664)
  (t : WalkR P X ops dr s0 K (dn ++ [⟨⟨some d, .call ⟨.builtin .append, #[x, y], #[tt, tt]⟩, ty, pos, after, none⟩, { v := .ow lo E (ps ++ ys) }, { reads := c9 [x, y] }⟩]) ⟨(d, .ow lo E (ps ++ ys)) :: env, heap⟩ rest)
  (hx : b9 X.G env x = some u := by rfl) (hu : Exact lo E u ps := by repeat constructor) (hy : b9 X.G env y = some v := by rfl) (hv : Elems E v ys := by repeat constructor) (hd : lb d X.n = true := by rfl) (hlo : lo ≤ X.w0.heap.size := by first | exact Nat.zero_le _ | exact Nat.le_refl _) :
  WalkR P X ops dr s0 K dn ⟨env, heap⟩ (⟨some d, .call ⟨.builtin .append, #[x, y], #[tt, tt]⟩, ty, pos, after, none⟩ :: rest) := bn6 hx hu hy hv hd hfit hlo t
theorem by5 (s : Nat) {b : Nat} {y : Operand} {tt E : TypeId} {B : Nat} {v : PV} {ps ys : List Pu} [hE : El P tt E B] (hfit : (ps.length + ys.length) * B ≤ 70368744177664)
  (t : WalkR P X ops dr s0 K (dn ++ [⟨⟨some d, .call ⟨.builtin .append, #[.tmp b, y], #[tt, tt]⟩, ty, pos, after, none⟩, { v := .ow lo E (ps ++ ys), env := [(s, .pu (.sl lo E ps))] }, { reads := b :: s :: c9 [y], bors := [(b, .slot s)] }⟩]) ⟨(d, .ow lo E (ps ++ ys)) :: (s, .pu (.sl lo E ps)) :: env, heap⟩ rest)
  (hs : get env s = some (.ow lo E ps) := by rfl) (hy : b9 X.G env y = some v := by rfl) (hv : Elems E v ys := by repeat constructor) (hd : lb d X.n = true := by rfl) (hlo : lo ≤ X.w0.heap.size := by first | exact Nat.zero_le _ | exact Nat.le_refl _) :
  WalkR P X ops dr s0 K dn ⟨env, heap⟩ (⟨some d, .call ⟨.builtin .append, #[.tmp b, y], #[tt, tt]⟩, ty, pos, after, none⟩ :: rest) := bn5 hs hy hv hd hfit hlo t
theorem O1 (l : Nat) (p : List Nat) {b : Nat} {y : Operand} {tt E : TypeId} {B : Nat} {v : PV} {ps ys : List Pu} {ob ob' : Ob} [hE : El P tt E B] (hfit : (ps.length + ys.length) * B ≤ 70368744177664)
  (t : WalkR P X ops dr s0 K (dn ++ [⟨⟨some d, .call ⟨.builtin .append, #[.tmp b, y], #[tt, tt]⟩, ty, pos, after, none⟩, { v := .ow lo E (ps ++ ys), heap := [(l, ob')] }, { reads := b :: c9 [y], hreads := [l], bors := [(b, .obj l p)], labs := ob'.labs }⟩]) ⟨(d, .ow lo E (ps ++ ys)) :: env, (l, ob') :: heap⟩ rest)
  (hl : get heap l = some ob := by rfl) (hR : X.R.contains l = false := by rfl) (hget : ob.get p = some (.ow lo E ps) := by rfl) (hset : ob.set p (.pu (.sl lo E ps)) = some ob' := by rfl) (hy : b9 X.G env y = some v := by rfl) (hv : Elems E v ys := by repeat constructor) (hd : lb d X.n = true := by rfl) (hlo : lo ≤ X.w0.heap.size := by first | exact Nat.zero_le _ | exact Nat.le_refl _) :
  WalkR P X ops dr s0 K dn ⟨env, heap⟩ (⟨some d, .call ⟨.builtin .append, #[.tmp b, y], #[tt, tt]⟩, ty, pos, after, none⟩ :: rest) := bn4 hl hR hget hset hy hv hd hfit hlo t
theorem A7 {st : St} {dn : List Item} (h : K st) (h1 : A5 [] dn = true := by kernel_rfl) (hn : dn.flatMap (·.f.news) = [] := by kernel_rfl) : WalkR P X ops false s0 K dn st [] := bF9 h1 hn h
theorem x8 {st : St} {dn : List Item} (h : K st) (h1 : A5 [] dn = true := by kernel_rfl) (h2 : M8 dn = true := by kernel_rfl) (hn : dn.flatMap (·.f.news) = [] := by kernel_rfl) : WalkR P X ops true s0 K dn st [] := bs9 h1 h2 hn h
class NoLab (ob : Ob) : Prop where ok : ob.labs = []
theorem NoLab.not {ob : Ob} [h : NoLab ob] {l : Nat} : l ∉ ob.labs := by rw [h.ok]; simp
theorem NoLab.map {α : Type} {K V : TypeId} {l : List α} {f : α → Pu} {g : α → PV} (h : ∀ a, (g a).labs = []) : NoLab (.map K V (l.map fun x => (f x, g x))) := ⟨by
 show PV.labsL ((l.map fun x => (f x, g x)).map (·.2)) = []
 rw [List.map_map]
 induction l with
 | nil => rfl
 | cons a l ih => simp only [List.map_cons, Function.comp, PV.labsL, h, List.nil_append]; exact ih⟩
theorem a6 {st : St} {dn : List Item} (ls : List Nat) (h : K st) (h1 : A5 [] dn = true := by kernel_rfl) (hn : dn.flatMap (·.f.news) = ls := by kernel_rfl)
  (hf : NewAll X s0 ls := by repeat (first | exact NewAll.nil | refine NewAll.cons rfl ?_ ?_ | exact NewL.nil | refine NewL.e (bh1 rfl) ?_ | refine NewL.e (aP4 rfl) ?_ | refine NewL.h rfl (aP3 rfl) ?_ | refine NewL.h rfl NoLab.not ?_)) : WalkR P X ops false s0 K dn st [] := bs8 h1 hn hf h
theorem G6 {st : St} {dn : List Item} (ls : List Nat) (h : K st) (h1 : A5 [] dn = true := by kernel_rfl) (h2 : M8 dn = true := by kernel_rfl) (hn : dn.flatMap (·.f.news) = ls := by kernel_rfl)
  (hf : NewAll X s0 ls := by repeat (first | exact NewAll.nil | refine NewAll.cons rfl ?_ ?_ | exact NewL.nil | refine NewL.e (bh1 rfl) ?_ | refine NewL.e (aP4 rfl) ?_ | refine NewL.h rfl (aP3 rfl) ?_ | refine NewL.h rfl NoLab.not ?_)) : WalkR P X ops true s0 K dn st [] := bc3 h1 h2 hn hf h
end
section
variable {P : Program} {lo : Nat} {X : Ctx} {st : St} {g : Bool}
inductive SetAt : Nat → PV → List PV → List PV → Prop
 | zero {v x : PV} {xs : List PV} : SetAt 0 v (x :: xs) (v :: xs)
 | succ {i : Nat} {v x : PV} {xs ys : List PV} (h : SetAt i v xs ys) : SetAt (i + 1) v (x :: xs) (x :: ys)
theorem SetAt.eq {i : Nat} {v : PV} {xs ys : List PV} (h : SetAt i v xs ys) : xs.set i v = ys := by
 induction h with
 | zero => rfl
 | succ _ ih => simp [ih]
inductive SetL (P : Program) (Ts : List TypeId) : List PV → List (Nat × PV) → List PV → Prop
 | nil {vs : List PV} : SetL P Ts vs [] vs
 | cons {i : Nat} {t : TypeId} {v : PV} {vs vs' us : List PV} {r : List (Nat × PV)} (hT : Ts[i]? = some t) (h : TyV P t v) (e : SetAt i v vs vs') (n : SetL P Ts vs' r us) : SetL P Ts vs ((i, v) :: r) us
theorem SetL.eq {cs : List (Nat × TypeId)} : ∀ {vs us : List PV} {r : List (Nat × PV)}, SetL P (cs.map (·.2)) vs r us → B7 P cs vs r = some us
 | _, _, _, .nil => rfl
 | _, _, _, .cons (i := i) (t := t) hT h e n => by
  rw [List.getElem?_map] at hT
  cases hc : cs[i]? with
  | none => rw [hc] at hT; cases hT
  | some q =>
   rw [hc] at hT
   simp at hT
   subst hT
   simp only [B7, hc, h.ok, if_true, e.eq]
   exact n.eq
theorem az0 (S : Seat P) {T : TypeId} {Ts : List TypeId} [hA : AgT P T Ts] {z : PV} [hz : Zr S T z] {zs us : List PV} {parts : List (Nat × PV)} (hp : partsV z = some zs) (h : SetL P Ts zs parts us) : ag3 P S T parts = some (Q2 T us) := by
 obtain ⟨cs, hc, hcs⟩ := hA.spec
 subst hcs
 unfold ag3
 rw [hz.ok]
 simp only [hp, hc, h.eq]
theorem aX1 {T : TypeId} {Ts : List TypeId} {parts : Array (Nat × Operand)} {vs zs us : List PV} {z : PV} (S : Seat P) [AgT P T Ts] [Zr S T z]
  (h : EvL X st.env g (parts.toList.map (·.2)) vs := by repeat (first | exact EvL.nil | (apply EvL.cons; (first | (focus (apply Ev.mk; exact rfl; (repeat constructor); done)) | (focus (apply Ev.gd; exact rfl; (repeat constructor); done)) | (focus (apply Ev.left; exact rfl; (repeat constructor); done))))))
  (hp : partsV z = some zs := by rfl) (hs : SetL P Ts zs ((parts.toList.map (·.1)).zip vs) us := by repeat (first | exact SetL.nil | (apply SetL.cons; exact rfl; exact inferInstance; (focus (repeat constructor))))) (hn : vs.any j1 = false := by rfl) (ha : X3 us = none := by rfl) :
  ValG P X st (.build T parts) g (.agg T us) { reads := c9 (parts.toList.map (·.2)) } := by
 have e : Q2 T us = .agg T us := by unfold Q2; rw [ha]
 exact aF2 S h hn (by rw [az0 S hp hs, e])
theorem aX0 {T : TypeId} {Ts : List TypeId} {parts : Array (Nat × Operand)} {vs zs us : List PV} {ps : List Pu} {z : PV} (S : Seat P) [AgT P T Ts] [Zr S T z]
  (h : EvL X st.env g (parts.toList.map (·.2)) vs := by repeat (first | exact EvL.nil | (apply EvL.cons; (first | (focus (apply Ev.mk; exact rfl; (repeat constructor); done)) | (focus (apply Ev.gd; exact rfl; (repeat constructor); done)) | (focus (apply Ev.left; exact rfl; (repeat constructor); done))))))
  (hp : partsV z = some zs := by rfl) (hs : SetL P Ts zs ((parts.toList.map (·.1)).zip vs) us := by repeat (first | exact SetL.nil | (apply SetL.cons; exact rfl; exact inferInstance; (focus (repeat constructor))))) (hn : vs.any j1 = false := by rfl) (ha : X3 us = some ps := by rfl) :
  ValG P X st (.build T parts) g (.pu (.agg T ps)) { reads := c9 (parts.toList.map (·.2)) } := by
 have e : Q2 T us = .pu (.agg T ps) := by unfold Q2; rw [ha]
 exact aF2 S h hn (by rw [az0 S hp hs, e])
mutual
inductive Low : Pu → Pu → Prop
 | refl {p : Pu} : Low p p
 | sl {lo lo' : Nat} {E : TypeId} {ps qs : List Pu} (hl : lo' ≤ lo) (h : Lows ps qs) : Low (.sl lo E ps) (.sl lo' E qs)
 | agg {T : TypeId} {ps qs : List Pu} (h : Lows ps qs) : Low (.agg T ps) (.agg T qs)
inductive Lows : List Pu → List Pu → Prop
 | nil : Lows [] []
 | cons {p q : Pu} {ps qs : List Pu} (h : Low p q) (t : Lows ps qs) : Lows (p :: ps) (q :: qs)
end
theorem Low.ty {p q : Pu} (h : Low p q) (T : TypeId) : tyP P T q = tyP P T p := by
 cases h <;> rfl
theorem Low.isAgg {p q : Pu} (h : Low p q) : (PV.pu q).isAgg = (PV.pu p).isAgg := by
 cases h <;> rfl
theorem Lows.length {ps : List Pu} : ∀ {qs : List Pu}, Lows ps qs → ps.length = qs.length := by
 induction ps with
 | nil => intro qs h; cases h; rfl
 | cons p ps ih => intro qs h; cases h with | cons _ t => simp [ih t]
theorem LoOk.low {w : World} {lo lo' b o : Nat} {E : TypeId} (h : LoOk w lo E b o) (hl : lo' ≤ lo) : LoOk w lo' E b o := by
 rcases h with h | ⟨h1, h2⟩
 ·exact .inl (by omega)
 ·exact .inr ⟨by omega, h2⟩
mutual
theorem PR.low {D : Nat → Nat → Prop} {w : World} : ∀ {p q : Pu} {x : List Value}, PR P D w p x → Low p q → PR P D w q x
 | _, _, _, h, .refl => h
 | _, _, _, .agg hc h, .agg k => .agg hc (PRs.low h k)
 | _, _, _, .sl0, .sl _ k => by
  cases k
  exact .sl0
 | _, _, _, .sl hn hcap h hx hlo, .sl hl k => by
  have e := k.length
  rw [e] at hcap h ⊢
  exact .sl (fun e' => hn (by subst e'; exact List.length_eq_zero_iff.1 e)) hcap (PRs.low h k) hx (hlo.low hl)
theorem PRs.low {D : Nat → Nat → Prop} {w : World} : ∀ {cs : List (Nat × TypeId)} {ps qs : List Pu} {x : List Value}, PRs P D w cs ps x → Lows ps qs → PRs P D w cs qs x
 | _, _, _, _, .nil, .nil => .nil
 | _, _, _, _, .cons hp hs ht h, .cons a t => .cons (PR.low hp a) hs ((a.ty _).trans ht) (PRs.low h t)
end
mutual
inductive ToPu : PV → Pu → Prop
 | pu {p : Pu} : ToPu (.pu p) p
 | nilc {lo : Nat} {E : TypeId} : ToPu .nilc (.sl lo E [])
 | xs {lo : Nat} {E : TypeId} {ps : List Pu} : ToPu (.xs lo E ps) (.sl lo E ps)
 | ow {lo : Nat} {E : TypeId} {ps : List Pu} : ToPu (.ow lo E ps) (.sl lo E ps)
 | agg {T : TypeId} {vs : List PV} {ps : List Pu} (h : ToPus vs ps) : ToPu (.agg T vs) (.agg T ps)
inductive ToPus : List PV → List Pu → Prop
 | nil : ToPus [] []
 | cons {v : PV} {p : Pu} {vs : List PV} {ps : List Pu} (h : ToPu v p) (t : ToPus vs ps) : ToPus (v :: vs) (p :: ps)
end
theorem ToPu.ty {v : PV} {p : Pu} (h : ToPu v p) (T : TypeId) : tyP P T p = tyV P T v := by
 cases h <;> rfl
theorem ToPu.isAgg {v : PV} {p : Pu} (h : ToPu v p) : (PV.pu p).isAgg = v.isAgg := by
 cases h <;> rfl
mutual
theorem VR.toPu {C : Cfg} {w : World} : ∀ {pl : Option Place} {v : PV} {x : List Value} {p : Pu}, VR P C w pl v x → ToPu v p → PR P C.D w p x
 | _, _, _, _, .pu h, .pu => h
 | _, _, _, _, .nilc, .nilc => .sl0
 | _, _, _, _, .xs h, .xs => h
 | _, _, _, _, .owx h, .ow => h
 | _, _, _, _, .ow h _ _ _ _, .ow => h
 | _, _, _, _, .agg hc h, .agg t => .agg hc (VRs.toPu h t)
theorem VRs.toPu {C : Cfg} {w : World} : ∀ {pl : Option Place} {i : Nat} {cs : List (Nat × TypeId)} {vs : List PV} {x : List Value} {ps : List Pu}, VRs P C w pl i cs vs x → ToPus vs ps → PRs P C.D w cs ps x
 | _, _, _, _, _, _, .nil, .nil => .nil
 | _, _, _, _, _, _, .cons hp hs ht h, .cons a t => .cons (VR.toPu hp a) hs ((a.ty _).trans ht) (VRs.toPu h t)
end
theorem ToPu.imp {v : PV} {p : Pu} (h : ToPu v p) : VImp P v (.pu p) := fun C w x hx => by
 cases hx with
 | one h1 h2 => exact .one (.pu (h1.toPu h)) (h2.trans h.isAgg.symm)
 | tup _ => cases h
theorem Low.imp {p q : Pu} (h : Low p q) : VImp P (.pu p) (.pu q) := fun C w x hx => by
 cases hx with
 | one h1 h2 => exact .one (.pu (h1.pu_inv.low h)) (h2.trans h.isAgg.symm)
theorem ARs.pure {C : Cfg} {w : World} {a : Act} : ∀ {os : List Operand} {vs : List PV} {ps : List Pu}, ARs P C w a os vs → ToPus vs ps → ARs P C w a os (ps.map .pu)
 | _, _, _, .nil, .nil => .nil
 | _, _, _, .cons h r, .cons k t => .cons (k.imp _ _ _ h) (r.pure t)
section
variable {ops : Array Oper} {env : List (Nat × PV)} {heap : List (Nat × Ob)} {dr : Bool} {s0 : St} {K : St → Prop} {dn : List Item} {rest : List Oper} {d : Nat} {ty : TypeId} {pos : String} {after : Array Edge}
theorem S7 (S : Seat P) {C : Cfg} {o : Oper} {a : Act} {w : World} (h : SatC P X C st a w) {T E : TypeId} {n : Nat} {parts : Array (Nat × Operand)} {raw : List PV} {ps : List Pu} (hop : o.op = .buildSlice T n parts) (hraw : evalL X.G st.env o.op.operands.toList = some raw) (hps : ToPus (raw.map strip) ps)
  (hd : C5 X.n o.dst = true) (hlo : lo ≤ X.w0.heap.size) (hb : aj8 P S lo T n ((parts.toList.map (·.1)).zip (ps.map .pu)) = some (.xs lo E ps)) : Exec P X C st o a w { v := .xs lo E ps } := by
 have har := (h.evalL hraw).pure hps
 have hlen := har.length
 rw [hop] at har hlen
 simp [Op.operands] at hlen
 obtain ⟨y, w', C', e1, e2, e3, e4⟩ := aU8 S h (xs := parts.toList.map fun (i, x) => (i, a.eval x)) hlo hb (by simp [hlen]) (fun j i v x hj hx => by
  obtain ⟨h1, h2⟩ := bd8 _ _ _ _ hj
  simp only [List.getElem?_map, Option.map_eq_some_iff] at h1 hx
  obtain ⟨q, hq, rfl⟩ := h1
  obtain ⟨q', hq', rfl⟩ := hx
  rw [hq] at hq'
  simp at hq'
  subst hq'
  refine ⟨rfl, ((har.at j q.2 v (by simp [Op.operands, hq]) h2).nt fun us e => ?_).1⟩
  subst e
  obtain ⟨p, _, hp⟩ := List.mem_map.1 (List.mem_of_getElem? h2)
  cases hp)
 refine m5 (C' := C') (w' := w') (y := y) ?_ (h.grew_put e2 e3 (t6 hd) e4 True) (h.tr_grew e2 e3.ρ _) (fun L d hL => by simp at hL)
 obtain ⟨dst, op, type, pos, after, guard⟩ := o
 simp only at hop
 subst hop
 have hm : (parts.toList.map fun (i, x) => (i, a.eval x)).toArray = parts.map fun (i, x) => (i, a.eval x) := by
  apply Array.ext'; simp
 rw [hm] at e1
 simp [execOp, e1]
inductive TyVs (P : Program) (E : TypeId) : List Pu → Prop
 | nil : TyVs P E []
 | cons {p : Pu} {ps : List Pu} (h : TyV P E (.pu p)) (t : TyVs P E ps) : TyVs P E (p :: ps)
theorem TyVs.all {E : TypeId} {ps : List Pu} (h : TyVs P E ps) : ∀ p ∈ ps, TyV P E (.pu p) := by
 induction h with
 | nil => intro p hp; cases hp
 | cons h _ ih =>
  intro p hp
  rcases List.mem_cons.1 hp with rfl | hp
  ·exact h
  ·exact ih p hp
theorem aN1 (S : Seat P) {T E : TypeId} [hS : Sl P T E] {z : PV} [hz : Zr S E z] {n : Nat} {parts : Array (Nat × Operand)} {vs : List PV} {ps : List Pu}
  (t : WalkR P X ops dr s0 K (dn ++ [⟨⟨some d, .buildSlice T n parts, ty, pos, after, none⟩, { v := .xs lo E ps }, { reads := rds ops ⟨some d, .buildSlice T n parts, ty, pos, after, none⟩, labs := [] }⟩]) ⟨(d, .xs lo E ps) :: env, heap⟩ rest)
  (h : EvL X env true (parts.toList.map (·.2)) vs := by repeat (first | exact EvL.nil | (apply EvL.cons; (first | (focus (apply Ev.mk; exact rfl; (repeat constructor); done)) | (focus (apply Ev.gd; exact rfl; (repeat constructor); done)) | (focus (apply Ev.left; exact rfl; (repeat constructor); done))))))
  (hps : ToPus vs ps := by repeat constructor) (hty : TyVs P E ps := by repeat (first | exact TyVs.nil | refine TyVs.cons inferInstance ?_)) (hn : n = ps.length := by rfl) (hi : parts.toList.map (·.1) = List.range ps.length := by rfl) (hfit : Nat.ble (n * P.cellsOf E) 16777216 = true := by kernel_rfl) (hd : lb d X.n = true := by rfl) (hlo : lo ≤ X.w0.heap.size := by first | exact Nat.zero_le _ | exact Nat.le_refl _) :
  WalkR P X ops dr s0 K dn ⟨env, heap⟩ (⟨some d, .buildSlice T n parts, ty, pos, after, none⟩ :: rest) := by
 obtain ⟨raw, h1, h2⟩ := h.raw rfl
 refine WalkR.cons ⟨fun l hl => by simp [PV.labs] at hl, fun L hL => by simp at hL, fun st' ha _ C a w hs _ => ?_⟩ t
 have hr : evalL X.G st'.env (parts.toList.map (·.2)) = some raw := by
  rw [u6 (ae0 ha fun t ht => by simp [rds, Op.operands, ht])];exact h1
 exact .of ((Guard.none rfl).wanted hs) (S7 S hs rfl hr (by rw [h2]; exact hps) (by simp [C5, F6 hd]) hlo (ao9 S hty.all hn hi hfit))
end
theorem b4 {n : Int} (h0 : -9223372036854775808 ≤ n) (h1 : n < 9223372036854775808) : IntKind.wrap .i64 n = n := by
 simp [IntKind.wrap, IntKind.bits, IntKind.signed]
 omega
theorem d4 {k : IntKind} {a b : Int} (h : a = b) : VImp P (iv k a) (iv k b) := by rw [h]; exact VImp.refl _
class LowI (p q : Pu) : Prop where ok : Low p q
theorem LowI.imp {p q : Pu} [h : LowI p q] : VImp P (.pu p) (.pu q) := h.ok.imp
theorem o6 {f : FuncId} {as : Array Operand} {ts : Array TypeId} {vs args : List PV} {v : PV} (hc : g = true → FCall P X.G f args v)
  (h : EvL X st.env g as.toList vs := by repeat (first | exact EvL.nil | (apply EvL.cons; (first | (focus (apply Ev.mk; exact rfl; (repeat constructor); done)) | (focus (apply Ev.gd; exact rfl; (repeat constructor); done)) | (focus (apply Ev.left; exact rfl; (repeat constructor); done))))))
  (himp : VImps P vs args := by repeat (first | exact VImps.nil | (apply VImps.cons; first | exact VImp.refl _ | exact LowI.imp | (focus (apply d4; apply b4 <;> omega)) | (focus (apply ToPu.imp; (repeat constructor); done)))))
  (he : j8 P f = true := by kernel_rfl) (hn : vs.any j1 = false := by rfl) (hn' : args.any j1 = false := by rfl) : ValG P X st (.call ⟨.value (.func f), as, ts⟩) g v { reads := c9 as.toList } := bV8 he h hn himp hn' hc
end
section
variable {P : Program} {env : List (Nat × PV)} {heap : List (Nat × Ob)}
theorem b6 {t : Nat} {r u : PV} (hx : get env t = some r := by rfl) (hs : Str r u := by repeat constructor) (hn : j1 r = false := by rfl) : ah6 P ⟨env, heap⟩ (.tmp t) = some u := by
 simp [ah6, hx, hn, hs.eq]
theorem n9 {a l : Nat} {T T' : TypeId} {p : List Nat} {ob : Ob} {r u : PV} [hO : Okt P T T'] (hx : get env a = some (.ptr l p T') := by rfl) (hl : get heap l = some ob := by rfl) (hg : ob.get p = some r := by rfl) (hs : Str r u := by repeat constructor) (hn : j1 r = false := by rfl) :
  ah6 P ⟨env, heap⟩ (.cell a T) = some u := by
 simp [ah6, hx, hO.ok, hl, hg, hn, hs.eq]
theorem VImps.tup {us vs : List PV} (h : VImps P us vs) (hn : ∀ v ∈ vs, ∀ ws, v ≠ .tup ws) : VImp P (.tup us) (.tup vs) := fun C w x hx => by
 cases hx with
 | one h _ => cases h
 | tup hf => exact .tup (hf.imp h hn)
theorem bz0 {rs : List ResultVar} {st : St} (hr : rs = [] := by rfl) : ∃ u, res P st rs = some u ∧ VImp P u (.tup []) := ⟨.tup [], by subst hr; rfl, VImp.refl _⟩
theorem A9 {rs : List ResultVar} {r : ResultVar} {st : St} {u v : PV} (hr : rs = [r]) (h : ah6 P st r = some u) (hi : VImp P u v) : ∃ u, res P st rs = some u ∧ VImp P u v := ⟨u, by subst hr; simp [res, aN3, h], hi⟩
theorem K8 {rs : List ResultVar} {r1 r2 : ResultVar} {st : St} {u1 u2 v1 v2 : PV} (hr : rs = [r1, r2]) (h1 : ah6 P st r1 = some u1) (i1 : VImp P u1 v1) (h2 : ah6 P st r2 = some u2) (i2 : VImp P u2 v2) (hn : [v1, v2].any j1 = false := by rfl) : ∃ u, res P st rs = some u ∧ VImp P u (.tup [v1, v2]) :=
 ⟨.tup [u1, u2], by subst hr; simp [res, aN3, h1, h2], VImps.tup (.cons i1 (.cons i2 .nil)) (M5 hn)⟩
theorem bX4 {rs : List ResultVar} {r1 r2 r3 : ResultVar} {st : St} {u1 u2 u3 v1 v2 v3 : PV} (hr : rs = [r1, r2, r3]) (h1 : ah6 P st r1 = some u1) (i1 : VImp P u1 v1) (h2 : ah6 P st r2 = some u2) (i2 : VImp P u2 v2) (h3 : ah6 P st r3 = some u3) (i3 : VImp P u3 v3)
  (hn : [v1, v2, v3].any j1 = false := by rfl) : ∃ u, res P st rs = some u ∧ VImp P u (.tup [v1, v2, v3]) :=
 ⟨.tup [u1, u2, u3], by subst hr; simp [res, aN3, h1, h2, h3], VImps.tup (.cons i1 (.cons i2 (.cons i3 .nil))) (M5 hn)⟩
end
section
variable {P : Program} {X : Ctx} {env : List (Nat × PV)} {heap : List (Nat × Ob)}
mutual
inductive Wk : PV → PV → Prop
 | refl {v : PV} : Wk v v
 | nilcOw {lo : Nat} {E : TypeId} : Wk .nilc (.ow lo E [])
 | xsOw {lo : Nat} {E : TypeId} {ps : List Pu} : Wk (.xs lo E ps) (.ow lo E ps)
 | nilcFl {E : TypeId} : Wk .nilc (.fl E [])
 | pu {v : PV} {p : Pu} (h : ToPu v p) : Wk v (.pu p)
 | agg {T : TypeId} {vs us : List PV} (h : Wks vs us) : Wk (.agg T vs) (.agg T us)
inductive Wks : List PV → List PV → Prop
 | nil : Wks [] []
 | cons {v u : PV} {vs us : List PV} (h : Wk v u) (t : Wks vs us) : Wks (v :: vs) (u :: us)
end
theorem Wk.ty {v u : PV} (h : Wk v u) (T : TypeId) : tyV P T u = tyV P T v := by
 cases h with
 | refl => rfl
 | nilcOw => rfl
 | xsOw => rfl
 | nilcFl => rfl
 | pu h => exact h.ty T
 | agg h => rfl
theorem Wk.isAgg {v u : PV} (h : Wk v u) : u.isAgg = v.isAgg := by
 cases h with
 | refl => rfl
 | nilcOw => rfl
 | xsOw => rfl
 | nilcFl => rfl
 | pu h => exact h.isAgg
 | agg h => rfl
mutual
theorem VR.wk {C : Cfg} {w : World} : ∀ {pl : Option Place} {v u : PV} {x : List Value}, Wk v u → VR P C w pl v x → VR P C w pl u x
 | _, _, _, _, .refl, h => h
 | _, _, _, _, .nilcOw, .nilc => .owx (ps := []) .sl0
 | _, _, _, _, .xsOw, .xs h => .owx h
 | _, _, _, _, .nilcFl, .nilc => .flx
 | _, _, _, _, .pu k, h => .pu (h.toPu k)
 | _, _, _, _, .agg k, .agg hc h => .agg hc (VRs.wk k h)
theorem VRs.wk {C : Cfg} {w : World} : ∀ {pl : Option Place} {i : Nat} {cs : List (Nat × TypeId)} {vs us : List PV} {x : List Value}, Wks vs us → VRs P C w pl i cs vs x → VRs P C w pl i cs us x
 | _, _, _, _, _, _, .nil, .nil => .nil
 | _, _, _, _, _, _, .cons k t, .cons hp hs ht h => .cons (VR.wk k hp) hs ((k.ty _).trans ht) (VRs.wk t h)
end
inductive OWk : Ob → Ob → Prop
 | refl {ob : Ob} : OWk ob ob
 | var {T : TypeId} {v u : PV} (h : Wk v u) : OWk (.var T v) (.var T u)
theorem OWk.imp {a b : Ob} (h : OWk a b) : ObImp P a b := by
 cases h with
 | refl => exact ObImp.refl _
 | var h => exact ⟨rfl, fun _ _ _ _ ⟨c, E, h1, h2, h3, h4⟩ => ⟨c, E, h1, h2.wk h, (h.ty _).trans h3, h4⟩⟩
inductive WkE (env : List (Nat × PV)) : List (Nat × PV) → Prop
 | nil : WkE env []
 | cons {i : Nat} {v u : PV} {r : List (Nat × PV)} (h : get env i = some v) (k : Wk v u) (t : WkE env r) : WkE env ((i, u) :: r)
inductive WkH (heap : List (Nat × Ob)) : List (Nat × Ob) → Prop
 | nil : WkH heap []
 | cons {i : Nat} {v u : Ob} {r : List (Nat × Ob)} (h : get heap i = some v) (k : OWk v u) (t : WkH heap r) : WkH heap ((i, u) :: r)
theorem WkE.at {r : List (Nat × PV)} (h : WkE env r) : ∀ i u, get r i = some u → ∃ v, get env i = some v ∧ Wk v u := by
 induction h with
 | nil => intro i u h; cases h
 | cons h k _ ih =>
  intro i u hu
  rw [f8] at hu
  split at hu
  ·rename_i e
   simp at hu
   subst e hu;exact ⟨_, h, k⟩
  ·exact ih i u hu
theorem WkH.at {r : List (Nat × Ob)} (h : WkH heap r) : ∀ i u, get r i = some u → ∃ v, get heap i = some v ∧ OWk v u := by
 induction h with
 | nil => intro i u h; cases h
 | cons h k _ ih =>
  intro i u hu
  rw [f8] at hu
  split at hu
  ·rename_i e
   simp at hu
   subst e hu;exact ⟨_, h, k⟩
  ·exact ih i u hu
theorem Ghost.wk {env' : List (Nat × PV)} {heap' : List (Nat × Ob)} (h1 : WkE env env') (h2 : WkH heap heap') : Ghost P X ⟨env, heap⟩ ⟨env', heap'⟩ := fun C a w h => by
 refine ⟨C, h.size, h.defers, h.framed, fun i u hu => ?_, fun l ob hl => ?_, fun l l' b R R' ob ob' hl hl' => ?_, fun l ob b R o hl => ?_, h.dLt, fun b q k hb => ?_, h.gl, h.kin, h.keep⟩
 ·obtain ⟨v, e1, e2⟩ := h1.at i u hu
  obtain ⟨x, e3, e4⟩ := h.env i v e1
  refine ⟨x, e3, ?_⟩
  cases e4 with
  | one h5 h6 => exact .one (h5.wk e2) (h6.trans e2.isAgg.symm)
  | tup h5 =>
   cases e2 with
   | refl => exact .tup h5
   | pu h => cases h
 ·obtain ⟨ob1, e1, e2⟩ := h2.at l ob hl
  obtain ⟨b, f1, f2, f3⟩ := h.heap l ob1 e1
  obtain ⟨k1, k2⟩ := e2.imp (P := P)
  exact ⟨b, by rw [← k1]; exact f1, f2, k2 _ _ _ _ f3⟩
 ·obtain ⟨o1, e1, _⟩ := h2.at l ob hl
  obtain ⟨o2, e2, _⟩ := h2.at l' ob' hl'
  exact h.inj l l' b R R' o1 o2 e1 e2
 ·obtain ⟨o1, e1, _⟩ := h2.at l ob hl
  exact h.dObj l o1 b R o e1
 ·obtain ⟨g1, g2, g3, g4⟩ := h.own b q k hb
  refine ⟨g1, g2, g3, fun l ob R hl => ?_⟩
  obtain ⟨o1, e1, _⟩ := h2.at l ob hl
  exact g4 l o1 R e1
theorem Tri.ghost {c : Code} {st t : St} {Q : Exit → St → Prop} (e : Ghost P X st t) (h : Tri P X c t Q) : Tri P X c st Q := fun C a w hs => by
 obtain ⟨C', hs'⟩ := e C a w hs
 exact h C' a w hs'
end
section
variable {P : Program} {lo : Nat} {X : Ctx} {st : St} {env : List (Nat × PV)} {heap : List (Nat × Ob)} {g : Bool}
theorem Tri.loopW {σ : Type} (I : σ → St) (μ : σ → Nat) {c : Code} {Q : Exit → St → Prop} (s0 : σ) (h1 : WkE env (I s0).env) (h2 : WkH heap (I s0).heap)
  (h : ∀ s, Tri P X c (I s) (ah0 (fun st' => ∃ s', μ s' < μ s ∧ (I s').Le st') Q)) : Tri P X (.loop c) ⟨env, heap⟩ Q :=
 Tri.ghost (Ghost.wk h1 h2) (Tri.loop I μ s0 ⟨fun _ _ h => h, fun _ _ h => h⟩ h)
theorem Tri.cutT {x y : Code} {Q : Exit → St → Prop} (t : St) (h : Tri P X x st (ah0 (fun s => t.Le s) Q)) (k : Tri P X y t Q) : Tri P X x st (ah0 (fun s => Tri P X y s Q) Q) := h.mono fun e s hs => by
 cases e with
 | normal => exact Tri.less hs k
 | _ => exact hs
theorem Tri.fact {c : Code} {Q : Exit → St → Prop} {i : Nat} {p : Pu} {φ : Prop} (hi : get st.env i = some (.pu p)) (hφ : ∀ (D : Nat → Nat → Prop) (w : World) (x : List Value), PR P D w p x → φ) (h : φ → Tri P X c st Q) : Tri P X c st Q := fun C a w hs => by
 obtain ⟨x, _, hx⟩ := hs.env i _ hi
 cases hx with
 | one hv _ => exact h (hφ _ _ _ hv.pu_inv) C a w hs
theorem bu7 {x : Operand} {t E l off n : Nat} (S : Seat P) [hS : Sl P t E] (hx : Ev X st.env g x (.arr l E off n) := by first | (focus (apply Ev.mk; exact rfl; (repeat constructor); done)) | (focus (apply Ev.gd; exact rfl; (repeat constructor); done)) | (focus (apply Ev.left; exact rfl; (repeat constructor); done)) | (focus (apply Ev.left2; exact rfl; (repeat constructor); done))) : ValG P X st (.call ⟨.builtin .len, #[x], #[t]⟩) g (iv .i64 n) { reads := c9 [x] } :=
 ValG.pure S (.cons hx .nil) (by simp [y7, aQ6, hS.spec.2])
theorem bV6 {T : TypeId} {u : PV} {zs : List PV} (S : Seat P) [hA : Ag P T] [hz : Zr S T u] (hp : partsV u = some zs := by rfl) (hm : Q2 T zs = u := by rfl) : ValG P X st (.build T #[]) g u { reads := [] } := by
 have hA' : (f7 P T).isSome = true := hA.ok
 obtain ⟨cs, hc⟩ := Option.isSome_iff_exists.1 hA'
 exact aF2 S (parts := #[]) (vs := []) .nil rfl (by
  unfold ag3
  rw [hz.ok]
  simp only [hp, hc, List.zip_nil_right, B7, hm])
def bI2 (P : Program) (T n e : Nat) : Bool := decide (T < P.types.size) && match P.underlying T with
 | some (.array n' e') => n' == n && e' == e
 | _ => false
class Arr (P : Program) (T : TypeId) (n : outParam Nat) (e : outParam TypeId) : Prop where ok : bI2 P T n e = true
theorem Arr.spec {T n e : Nat} (h : Arr P T n e) : T < P.types.size ∧ P.underlying T = some (.array n e) := by
 have := h.ok
 unfold bI2 at this
 simp only [Bool.and_eq_true, decide_eq_true_eq] at this
 obtain ⟨h1, h2⟩ := this
 split at h2
 ·rename_i n' e' hu
  simp at h2
  obtain ⟨rfl, rfl⟩ := h2
  exact ⟨h1, hu⟩
 ·simp at h2
theorem ae4 {x y : Operand} {T T' n e l : Nat} {p : List Nat} {k : IntKind} {i : Int} (S : Seat P) [hA : Arr P T n e] [hO : Okt P T T'] (h : Ev X st.env g x (.ptr l p T') := by first | (focus (apply Ev.mk; exact rfl; (repeat constructor); done)) | (focus (apply Ev.gd; exact rfl; (repeat constructor); done)) | (focus (apply Ev.left; exact rfl; (repeat constructor); done)) | (focus (apply Ev.left2; exact rfl; (repeat constructor); done))) (hi : Ev X st.env g y (iv k i) := by first | (focus (apply Ev.mk; exact rfl; (repeat constructor); done)) | (focus (apply Ev.gd; exact rfl; (repeat constructor); done)) | (focus (apply Ev.left; exact rfl; (repeat constructor); done)) | (focus (apply Ev.left2; exact rfl; (repeat constructor); done))) (h0 : 0 ≤ i := by first | decide | omega) (hn : i < n := by first | decide | omega) :
  ValG P X st (.indexAddr T x y) g (.ptr l (p ++ [i.toNat]) e) { reads := c9 [x, y] } :=
 ValG.pure S (.cons h (.cons hi .nil)) (by
  obtain ⟨h1, h2⟩ := hA.spec
  have hc := P0 h1 h2
  have hlt : i.toNat < n := by omega
  have hp : H0 P T' i.toNat = some (P.cellsOf e, e) := by
   unfold H0
   rw [← (v9 hO.ok).1, hc]
   simp [hlt]
  simp [y7, ad1, h1, h2, J7, h0, hO.ok, hp])
theorem T9 {x y : Operand} {ts : Array TypeId} {k : IntKind} {a b : Int} (hx : b9 X.G st.env x = some (iv k a) := by rfl) (hy : b9 X.G st.env y = some (iv k b) := by rfl) : ValG P X st (.call ⟨.builtin .min, #[x, y], ts⟩) g (iv k (if b < a then b else a)) { reads := c9 [x, y] } := cc1 hx hy
theorem X9 {x y : Operand} {ts : Array TypeId} {k : IntKind} {a b : Int} (hx : b9 X.G st.env x = some (iv k a) := by rfl) (hy : b9 X.G st.env y = some (iv k b) := by rfl) : ValG P X st (.call ⟨.builtin .max, #[x, y], ts⟩) g (iv k (if a < b then b else a)) { reads := c9 [x, y] } :=
 ⟨fun _ st' ha C a' w hs o ho hd => by
  have hx' : b9 X.G st'.env x = some (iv k a) := by
   rw [d5 (env := st.env) fun t e => ha.env t (f0 (by rw [e]; simp))];exact hx
  have hy' : b9 X.G st'.env y = some (iv k b) := by
   rw [d5 (env := st.env) fun t e => ha.env t (f0 (by rw [e]; simp))];exact hy
  have ex := (hs.eval hx').leaf_inv.1
  have ey := (hs.eval hy').leaf_inv.1
  refine m5 (w' := w) (C' := C) (y := .int k (if a < b then b else a)) ?_ (hs.upd_put (t6 hd) VW.iv_mk none True) (Tr.refl _ _ _ _) (fun L d hL => by simp at hL)
  obtain ⟨dst, op, type, pos, after, guard⟩ := o
  simp only at ho
  subst ho
  simp [execOp, resolve, invoke, builtin, ex, ey, Builtin.max_, Builtin.max2]⟩
theorem H8 (S : Seat P) {f : Fn} {first captured : Array Operand} {vs : List PV} {u : PV} (h : EvL X st.env g (first.toList ++ captured.toList) vs := by repeat (first | exact EvL.nil | (apply EvL.cons; (first | (focus (apply Ev.mk; exact rfl; (repeat constructor); done)) | (focus (apply Ev.gd; exact rfl; (repeat constructor); done)) | (focus (apply Ev.left; exact rfl; (repeat constructor); done)) | (focus (apply Ev.left2; exact rfl; (repeat constructor); done))))))
  (hu : bM3 f (vs.take first.size) (vs.drop first.size) = some u := by rfl) : ValG P X st (.makeFunc f first captured) g u { reads := c9 (first.toList ++ captured.toList) } := bV5 S h hu
section
variable {ops : Array Oper} {dr : Bool} {s0 : St} {K : St → Prop} {dn : List Item} {rest : List Oper} {d : Nat} {ty : TypeId} {pos : String} {after : Array Edge}
theorem aB6 {t KT VT : TypeId} (l : Nat) [Mp P t KT VT]
  (c : WalkR P X ops dr s0 K (dn ++ [⟨⟨some d, .makeMap t none, ty, pos, after, none⟩, { v := .mp l KT VT, heap := [(l, .map KT VT [])] }, { news := [l], labs := [l] }⟩]) ⟨(d, .mp l KT VT) :: env, (l, .map KT VT []) :: heap⟩ rest) (hd : lb d X.n = true := by rfl) :
  WalkR P X ops dr s0 K dn ⟨env, heap⟩ (⟨some d, .makeMap t none, ty, pos, after, none⟩ :: rest) := aF7 l hd c
end
theorem l7 {a b : Bool} (h : a = b) : VImp P (bv a) (bv b) := by rw [h]; exact VImp.refl _
theorem VImp.of_eq {u v : PV} (h : u = v) : VImp P u v := by rw [h]; exact VImp.refl _
def FCallN (P : Program) (G : List (Nat × TypeId × Pu)) (f : FuncId) (args : List PV) (v : Nat → PV) : Prop :=
 ∀ C w (xs : Array Value), Frag P G C w [] [] → VFs P C w args xs.toList → Calls P f xs w fun e w' => ∃ y C', e = .returned y ∧ After P C w [] [] C' w' [] (v w.heap.size) y
theorem FCallN.at {G : List (Nat × TypeId × Pu)} {f : FuncId} {args : List PV} {v : Nat → PV} (h : FCallN P G f args v) {u : PV} (hu : ∀ n, VImp P (v n) u) : FCall P G f args u := fun C w xs F hx =>
 (h C w xs F hx).mono fun e w' ⟨y, C', he, A⟩ => ⟨y, C', he, { A with val := hu _ _ _ _ A.val }⟩
theorem FCallN.of_tri {G : List (Nat × TypeId × Pu)} (hT : j3 P = true) {f : FuncId} {fn : Func} {c : Code} (n : Nat) (hf : P.funcs[f]? = some fn) (hb : fn.body = some c) {args : List PV} {v : Nat → PV} (hn : n = args.length + (fn.ntmps - args.length)) (hv : ∀ m, (v m).labs = [])
  (h : ∀ w0 M ρ0 D0, (∀ b, ¬ M b) → Tri P ⟨w0, n, M, G, [], [], ρ0, D0, none⟩ c ⟨L9 0 args, []⟩ fun e st => (e = .normal ∨ e = .ret) ∧ ∃ u, res P st fn.results.toList = some u ∧ VImp P u (v w0.heap.size)) : FCallN P G f args v := by
 intro C w xs F hx
 refine HCall.of_triW hT hf hb (L := []) (n := n) hn (fun l ob h => by cases h) (fun l ob h => by cases h) (fun l hl => absurd hl (al6 (hv _))) (fun l ob h => by cases h) (fun l ob h => by cases h) ?_ F hx
 rintro ⟨w0, n', M, G', L, R, ρ0, D0, ro⟩ hw hM hn hG hL hR hro
 simp only at hw hM hn hG hL hR hro
 subst hw hn hG hL hR hro
 refine (h w0 M ρ0 D0 (fun b hb => ?_)).mono fun e st ⟨he, u, hu, hi⟩ => ⟨he, st, Ghost.refl _, ⟨u, hu, hi⟩, fun l ob h => by cases h⟩
 rw [hM] at hb
 rcases hb with ⟨l, ob, R, h1, _⟩ | ⟨l, p, k, ob, _, h1⟩ <;> cases h1
theorem F2 {f : FuncId} {as : Array Operand} {ts : Array TypeId} {vs args : List PV} {v : Nat → PV} (hm : ∀ m n, n ≤ m → VImp P (v m) (v n)) (hc : g = true → FCallN P X.G f args v)
  (h : EvL X st.env g as.toList vs := by repeat (first | exact EvL.nil | (apply EvL.cons; (first | (focus (apply Ev.mk; exact rfl; (repeat constructor); done)) | (focus (apply Ev.gd; exact rfl; (repeat constructor); done)) | (focus (apply Ev.left; exact rfl; (repeat constructor); done))))))
  (himp : VImps P vs args := by repeat (first | exact VImps.nil | (apply VImps.cons; first | exact VImp.refl _ | exact LowI.imp | (focus (apply d4; apply b4 <;> omega)) | (focus (apply ToPu.imp; (repeat constructor); done)))))
  (he : j8 P f = true := by kernel_rfl) (hn : vs.any j1 = false := by rfl) (hn' : args.any j1 = false := by rfl) : ValG P X st (.call ⟨.value (.func f), as, ts⟩) g (v X.w0.heap.size) { reads := c9 as.toList } := ⟨fun hg st' ha C a w hs o ho hd => by
 obtain ⟨raw, h1, h2⟩ := h.raw hg
 have h1' : evalL X.G st'.env as.toList = some raw := by
  rw [u6 (env := st.env) fun t ht => ha.env t ht];exact h1
 exact ax9 (first := []) (captured := []) (HR := []) (H := []) (news := []) hs ho rfl rfl he h1' (by rw [h2]; exact hn) (by rw [h2]; simpa using himp) hn' (fun l ob hl => by cases hl) (fun l ob hl => by cases hl) (fun xs F hx =>
  (hc hg C w xs F hx).mono fun e w' ⟨y, C', he, A⟩ => ⟨y, C', he, { A with val := hm _ _ hs.framed.size _ _ _ A.val }⟩) (fun l hl => by cases hl) hd⟩
end
section
variable {P : Program} {G : List (Nat × TypeId × Pu)}
def A8 (HR H : List (Nat × Ob)) : Bool := (e9 H).all fun l => !(e9 HR).contains l
theorem m6 {HR H : List (Nat × Ob)} (h : A8 HR H = true) {l : Nat} {ob : Ob} (hl : get H l = some ob) : get HR l = none := by
 have h1 := List.all_eq_true.1 h l (m4 hl)
 cases hg : get HR l with
 | none => rfl
 | some o =>
  have h2 : l ∈ e9 HR := m4 hg
  simp [h2] at h1
theorem I7 {HR H : List (Nat × Ob)} (h : A8 HR H = true) {l : Nat} {ob : Ob} (hl : get HR l = some ob) : get H l = none := by
 cases hg : get H l with
 | none => rfl
 | some o => rw [m6 h hg] at hl; cases hl
inductive AnyC (P : Program) (G : List (Nat × TypeId × Pu)) (f : FuncId) (first captured : List PV) (HR : List (Nat × Ob)) : List Pu → List (Nat × Ob) → Option Nat → List (Nat × Ob) → Prop
 | nil {H : List (Nat × Ob)} : AnyC P G f first captured HR [] H none H
 | hit {p : Pu} {ps : List Pu} {H H' : List (Nat × Ob)} (h : HCall P G f (first ++ [.pu p] ++ captured) HR H (bv true) H' []) (hd : A8 HR H' = true) : AnyC P G f first captured HR (p :: ps) H (some 0) H'
 | next {p : Pu} {ps : List Pu} {H H1 H' : List (Nat × Ob)} {r : Option Nat} (h : HCall P G f (first ++ [.pu p] ++ captured) HR H (bv false) H1 []) (hd : A8 HR H1 = true) (t : AnyC P G f first captured HR ps H1 r H') : AnyC P G f first captured HR (p :: ps) H (r.map (· + 1)) H'
def S6 (r : Option Nat) : Int := match r with
 | some i => i
 | none => -1
theorem aq3 {HR H H1 : List (Nat × Ob)} {env : List (Nat × PV)} {env' : List (Nat × PV)} (hd : A8 HR H1 = true) (he : SubE env env') : St.Le ⟨env', HR ++ H1⟩ ⟨env, H1 ++ (HR ++ H)⟩ := ⟨he.le, fun l ob hl => by
 simp only at hl ⊢
 rw [c8] at hl ⊢
 cases hg : get HR l with
 | some o =>
  rw [hg] at hl
  rw [I7 hd hg, c8, hg]
  simpa using hl
 | none =>
  rw [hg] at hl
  simp only [Option.none_or] at hl
  rw [hl]
  rfl⟩
theorem aq2 {HR H : List (Nat × Ob)} {env : List (Nat × PV)} {env' : List (Nat × PV)} (he : SubE env env') : St.Le ⟨env', HR ++ H⟩ ⟨env, HR ++ H⟩ := ⟨he.le, fun _ _ h => h⟩
theorem L8 {H : List (Nat × Ob)} {l : Nat} {ob : Ob} (h : get H l = some ob) : (l ∈ e9 H ++ u4 H ∨ l ∈ ([] : List Nat)) ∧ ∀ l' ∈ ob.labs, l' ∈ e9 H ++ u4 H ∨ l' ∈ ([] : List Nat) :=
 ⟨.inl (List.mem_append_left _ (m4 h)), fun l' hl' => .inl (List.mem_append_right _ (J6 (D1 h) hl'))⟩
theorem HCall.more {f : FuncId} {args : List PV} {HR HR' H H' : List (Nat × Ob)} {v : PV} {news : List Nat} (h : HCall P G f args HR H v H' news) (hs : ∀ l ob, get HR l = some ob → get HR' l = some ob) (hd : A8 HR' H = true) : HCall P G f args HR' H v H' news := fun C w xs F hx =>
 h C w xs ⟨fun l ob hl => F.heap l ob (up hs hd hl), fun l l' b R R' ob ob' h1 h2 => F.inj l l' b R R' ob ob' (up hs hd h1) (up hs hd h2), fun l ob b R o hl => F.dObj l ob b R o (up hs hd hl), F.dLt, fun b q k hb => let ⟨h1, h2, h3⟩ := F.own b q k hb; ⟨h1, h2, fun l ob R hl => h3 l ob R (up hs hd hl)⟩, F.gl⟩ hx
  where
 up {HR HR' H : List (Nat × Ob)} (hs : ∀ l ob, get HR l = some ob → get HR' l = some ob) (hd : A8 HR' H = true) {l : Nat} {ob : Ob} (hl : get (HR ++ H) l = some ob) : get (HR' ++ H) l = some ob := by
  rw [c8] at hl ⊢
  cases hg : get HR l with
  | some o => rw [hg] at hl; rw [hs l o hg]; exact hl
  | none =>
   rw [hg] at hl
   simp only [Option.none_or] at hl
   cases hg' : get HR' l with
   | some o => rw [I7 hd hg'] at hl; cases hl
   | none => simpa using hl
def ap6 {α : Type} (step : Int → α → Bool × Int) : Int → List α → Bool × Int
 | c, [] => (false, c)
 | c, a :: l => match step c a with
  | (true, c') => (true, c')
  | (false, c') => ap6 step c' l
theorem AnyC.state {α : Type} {f : FuncId} {first captured : List PV} {HR : List (Nat × Ob)} (enc : α → Pu) (step : Int → α → Bool × Int) (ob : Int → List (Nat × Ob)) (inv : Int → Prop) (hd : ∀ c, A8 HR (ob c) = true) :
  ∀ (l : List α), (∀ a ∈ l, ∀ c, inv c → HCall P G f (first ++ [.pu (enc a)] ++ captured) HR (ob c) (bv (step c a).1) (ob (step c a).2) [] ∧ ((step c a).1 = false → inv (step c a).2)) →
   ∀ c, inv c → ∃ r, r.isSome = (ap6 step c l).1 ∧ AnyC P G f first captured HR (l.map enc) (ob c) r (ob (ap6 step c l).2)
 | [], _, c, _ => ⟨none, rfl, .nil⟩
 | a :: l, h, c, hc => by
  obtain ⟨h1, h2⟩ := h a (by simp) c hc
  simp only [ap6]
  rcases hs : step c a with ⟨b, c'⟩
  rw [hs] at h1 h2
  cases b with
  | true => exact ⟨some 0, rfl, .hit h1 (hd _)⟩
  | false =>
   obtain ⟨r, e1, e2⟩ := AnyC.state enc step ob inv hd l (fun x hx => h x (by simp [hx])) c' (h2 rfl)
   exact ⟨r.map (· + 1), by simpa using e1, .next h1 (hd _) e2⟩
inductive OutH (P : Program) (heap : List (Nat × Ob)) : List (Nat × Ob) → Prop
 | nil : OutH P heap []
 | cons {l : Nat} {ob ob1 : Ob} {r : List (Nat × Ob)} (h : get heap l = some ob1) (k : ObImp P ob1 ob) (t : OutH P heap r) : OutH P heap ((l, ob) :: r)
theorem OutH.at {heap H' : List (Nat × Ob)} (h : OutH P heap H') : ∀ l ob, get H' l = some ob → ∃ ob1, get heap l = some ob1 ∧ ObImp P ob1 ob := by
 induction h with
 | nil => intro l ob h; cases h
 | cons h k _ ih =>
  intro l ob hl
  rw [f8] at hl
  split at hl
  ·rename_i e
   simp at hl
   subst e hl;exact ⟨_, h, k⟩
  ·exact ih l ob hl
def af9 (HR H H' : List (Nat × Ob)) (v : PV) (L news : List Nat) : Bool :=
 HR.all (fun q => B1 q.2) && A8 HR H' && v.labs.all (fun l => (L ++ news).contains l) && H'.all (fun q => (L ++ news).contains q.1 && q.2.labs.all fun l => (L ++ news).contains l) && (e9 H).all fun l => (e9 H').contains l
theorem HCall.of_triD (hT : j3 P = true) {f : FuncId} {fn : Func} {c : Code} (n : Nat) (L : List Nat) (hf : P.funcs[f]? = some fn) (hb : fn.body = some c) {args : List PV} {HR H H' : List (Nat × Ob)} {v : PV} {news : List Nat} (hn : n = args.length + (fn.ntmps - args.length)) (hchk : af9 HR H H' v L news = true)
  (h : ∀ w0 M ρ0 D0, Tri P ⟨w0, n, M, G, L, e9 HR, ρ0, D0, none⟩ c ⟨L9 0 args, HR ++ H⟩ fun e st => (e = .normal ∨ e = .ret) ∧ (∃ u, res P st fn.results.toList = some u ∧ VImp P u v) ∧ OutH P st.heap H') : HCall P G f args HR H v H' news := by
 unfold af9 at hchk
 simp only [Bool.and_eq_true] at hchk
 obtain ⟨⟨⟨⟨c1, c2⟩, c3⟩, c4⟩, c5⟩ := hchk
 have inL : ∀ l, (L ++ news).contains l = true → l ∈ L ∨ l ∈ news := fun l hl => by
  simpa using hl
 refine HCall.of_tri hT hf hb (L := L) (n := n) hn (fun l ob hl => List.all_eq_true.1 c1 _ (D1 hl)) (fun l ob hl => m6 c2 hl) (fun l hl => inL l (List.all_eq_true.1 c3 l hl)) (fun l ob hl => ?_) (fun l ob hl => ?_) ?_
 ·have := List.all_eq_true.1 c4 _ (D1 hl)
  simp only [Bool.and_eq_true] at this
  exact ⟨inL l this.1, fun l' hl' => inL l' (List.all_eq_true.1 this.2 l' hl')⟩
 ·have := List.all_eq_true.1 c5 l (m4 hl)
  exact k8 (by simpa [e9] using this)
 ·rintro ⟨w0, n', M, G', L', R, ρ0, D0, ro⟩ hn hG hL hR hro
  simp only at hn hG hL hR hro
  subst hn hG hL hR hro
  exact (h w0 M ρ0 D0).mono fun e st ⟨he, hu, ho⟩ => ⟨he, st, Ghost.refl _, hu, ho.at⟩
section
variable {X : Ctx} {st : St} {ops : Array Oper} {env : List (Nat × PV)} {heap : List (Nat × Ob)} {dr : Bool} {s0 : St} {K : St → Prop} {dn : List Item} {rest : List Oper} {d : Nat} {ty : TypeId} {pos : String} {after : Array Edge} {g : Bool}
inductive InH (P : Program) (R : List Nat) (heap : List (Nat × Ob)) : List (Nat × Ob) → Prop
 | nil : InH P R heap []
 | cons {l : Nat} {ob ob1 : Ob} {r : List (Nat × Ob)} (hR : R.contains l = false) (h : get heap l = some ob1) (k : ObImp P ob1 ob) (t : InH P R heap r) : InH P R heap ((l, ob) :: r)
theorem InH.at {R : List Nat} {heap H : List (Nat × Ob)} (h : InH P R heap H) : ∀ l ob, get H l = some ob → l ∉ R ∧ ∃ ob1, get heap l = some ob1 ∧ ObImp P ob1 ob := by
 induction h with
 | nil => intro l ob h; cases h
 | cons hR h k _ ih =>
  intro l ob hl
  rw [f8] at hl
  split at hl
  ·rename_i e
   simp at hl
   subst e hl;exact ⟨by simpa using hR, _, h, k⟩
  ·exact ih l ob hl
theorem a9 {fo : Operand} {as : Array Operand} {ts : Array TypeId} {f : FuncId} {vf r : PV} {vs first captured args : List PV} {HR H H' : List (Nat × Ob)} {v : PV} {news : List Nat} (hc : HCall P X.G f args HR H v H' news)
  (c : WalkR P X ops dr s0 K (dn ++ [⟨⟨some d, .call ⟨.value fo, as, ts⟩, ty, pos, after, none⟩, { v := v, heap := H' }, { reads := c9 (fo :: as.toList), hreads := e9 HR ++ e9 H, news := news, labs := v.labs ++ u4 H' }⟩]) ⟨(d, v) :: env, H' ++ heap⟩ rest)
  (hfo : b9 X.G env fo = some r := by rfl) (hs : Str r vf := by repeat constructor) (hfv : fnV vf = some (f, first, captured) := by rfl)
  (h : EvL X env true as.toList vs := by repeat (first | exact EvL.nil | (apply EvL.cons; (first | (focus (apply Ev.mk; exact rfl; (repeat constructor); done))))))
  (himp : VImps P (first ++ vs ++ captured) args := by repeat (first | exact VImps.nil | (apply VImps.cons; first | exact VImp.refl _ | exact LowI.imp | (focus (apply d4; apply b4 <;> omega)) | (focus (apply ToPu.imp; (repeat constructor); done)))))
  (hHR : OutH P heap HR := by repeat (first | exact OutH.nil | refine OutH.cons rfl (ObImp.refl _) ?_)) (hH : InH P X.R heap H := by repeat (first | exact InH.nil | refine InH.cons rfl rfl (ObImp.refl _) ?_))
  (he : j8 P f = true := by kernel_rfl) (hn : vs.any j1 = false := by rfl) (hn' : args.any j1 = false := by rfl) (hd : lb d X.n = true := by rfl) :
  WalkR P X ops dr s0 K dn ⟨env, heap⟩ (⟨some d, .call ⟨.value fo, as, ts⟩, ty, pos, after, none⟩ :: rest) :=
 A0 hfo hs hfv he h hn himp hn' hHR.at hH.at hc hd c
theorem p6 {fo : Operand} {as : Array Operand} {ts : Array TypeId} {f : FuncId} {vf : PV} {vs first captured args : List PV} {HR : List (Nat × Ob)} {v : PV} (hc : g = true → HCall P X.G f args HR [] v [] [])
  (hfo : Ev X st.env g fo vf := by first | (focus (apply Ev.mk; exact rfl; (repeat constructor); done)) | (focus (apply Ev.gd; exact rfl; (repeat constructor); done)) | (focus (apply Ev.left; exact rfl; (repeat constructor); done)) | (focus (apply Ev.left2; exact rfl; (repeat constructor); done))) (hfv : fnV vf = some (f, first, captured) := by rfl)
  (h : EvL X st.env g as.toList vs := by repeat (first | exact EvL.nil | (apply EvL.cons; (first | (focus (apply Ev.mk; exact rfl; (repeat constructor); done)) | (focus (apply Ev.gd; exact rfl; (repeat constructor); done)) | (focus (apply Ev.left; exact rfl; (repeat constructor); done))))))
  (himp : VImps P (first ++ vs ++ captured) args := by repeat (first | exact VImps.nil | (apply VImps.cons; first | exact VImp.refl _ | exact LowI.imp | (focus (apply d4; apply b4 <;> omega)) | (focus (apply ToPu.imp; (repeat constructor); done)))))
  (hHR : OutH P st.heap HR := by repeat (first | exact OutH.nil | refine OutH.cons rfl (ObImp.refl _) ?_))
  (he : j8 P f = true := by kernel_rfl) (hn : vs.any j1 = false := by rfl) (hn' : args.any j1 = false := by rfl) : ValG P X st (.call ⟨.value fo, as, ts⟩) g v { reads := c9 (fo :: as.toList), hreads := e9 HR } :=
 bI8 hfo hfv he h hn himp hn' hHR.at hc
theorem I0 {j : Nat} {want : Bool} {fo : Operand} {as : Array Operand} {ts : Array TypeId} {f : FuncId} {vf : PV} {vs first captured args : List PV} {HR H H' : List (Nat × Ob)} {v : PV} (hg : Guard ops ⟨env, heap⟩ ⟨some d, .call ⟨.value fo, as, ts⟩, ty, pos, after, some (j, want)⟩ g) (hc : g = true → HCall P X.G f args HR H v H' []) (h0 : g = false → SubH heap H')
  (c : WalkR P X ops dr s0 K (dn ++ [⟨⟨some d, .call ⟨.value fo, as, ts⟩, ty, pos, after, some (j, want)⟩, { v := gd g v, heap := H' }, { reads := I5 ops ⟨some d, .call ⟨.value fo, as, ts⟩, ty, pos, after, some (j, want)⟩ ++ c9 (fo :: as.toList), hreads := e9 HR ++ e9 H ++ e9 H', labs := v.labs ++ u4 H' }⟩]) ⟨(d, gd g v) :: env, H' ++ heap⟩ rest)
  (hfo : Ev X env g fo vf := by first | (focus (apply Ev.mk; exact rfl; (repeat constructor); done)) | (focus (apply Ev.gd; exact rfl; (repeat constructor); done)) | (focus (apply Ev.left; exact rfl; (repeat constructor); done)) | (focus (apply Ev.left2; exact rfl; (repeat constructor); done))) (hfv : fnV vf = some (f, first, captured) := by rfl)
  (h : EvL X env g as.toList vs := by repeat (first | exact EvL.nil | (apply EvL.cons; (first | (focus (apply Ev.mk; exact rfl; (repeat constructor); done)) | (focus (apply Ev.gd; exact rfl; (repeat constructor); done)) | (focus (apply Ev.left; exact rfl; (repeat constructor); done))))))
  (himp : VImps P (first ++ vs ++ captured) args := by repeat (first | exact VImps.nil | (apply VImps.cons; first | exact VImp.refl _ | exact LowI.imp | (focus (apply d4; apply b4 <;> omega)) | (focus (apply ToPu.imp; (repeat constructor); done)))))
  (hHR : OutH P heap HR := by repeat (first | exact OutH.nil | refine OutH.cons rfl (ObImp.refl _) ?_)) (hH : InH P X.R heap H := by repeat (first | exact InH.nil | refine InH.cons rfl rfl (ObImp.refl _) ?_))
  (he : j8 P f = true := by kernel_rfl) (hn : vs.any j1 = false := by rfl) (hn' : args.any j1 = false := by rfl) (hd : lb d X.n = true := by rfl) :
  WalkR P X ops dr s0 K dn ⟨env, heap⟩ (⟨some d, .call ⟨.value fo, as, ts⟩, ty, pos, after, some (j, want)⟩ :: rest) :=
 aY1 hg hfo hfv he h hn himp hn' hHR.at hH.at hc h0 hd c
end
end
section
variable {P : Program}
def aW2 (P : Program) (X : Ctx) (l : Nat) (args : List PV) (HR H : List (Nat × Ob)) (v : PV) (H' : List (Nat × Ob)) : Prop :=
 ∀ C w (xs : Array Value), Kin X C → Framed X w → (∀ b o, X.D0 b o → w.cell? ⟨b, o, none⟩ = X.w0.cell? ⟨b, o, none⟩) → Frag P X.G C w HR H → VFs P C w args xs.toList →
  ∃ f tmps assign body, (Instr.yield l xs).run P w = .ok (.round l f tmps assign body) w ∧
   RoundIn Fence.wide 0 P l f tmps assign body w fun e w' => ∃ y C', e = .returned y ∧ After P C w H [] C' w' H' v y
theorem bl8 {C : Cfg} {w : World} {l : Nat} {x : Value} (h : VW P C w (.fn (.yield l) [] []) x) : x = .func (.yield l) #[] #[] := by
 have hc := h.cell rfl (fun _ => by simp)
 generalize hz : [x] = z at hc
 cases hc with
 | fn h1 h2 =>
  rename_i xs ys
  simp at hz
  rw [hz]
  have e1 : xs = #[] := by
   have := h1.length; simp at this; exact Array.eq_empty_of_size_eq_zero this.symm
  have e2 : ys = #[] := by
   have := h2.length; simp at this; exact Array.eq_empty_of_size_eq_zero this.symm
  rw [e1, e2]
theorem aT7 {X : Ctx} {C : Cfg} {st : St} {ops : Array Oper} {o : Oper} {a : Act} {w : World} (h : SatC P X C st a w) {fo : Operand} {as : Array Operand} {ts : Array TypeId} {l0 : Nat} {vf : PV} {raw args : List PV} {HR H H' : List (Nat × Ob)} {v : PV}
  (hg : o.guard = none) (hop : o.op = .call ⟨.value fo, as, ts⟩) (hfo : b9 X.G st.env fo = some vf) (hfv : strip vf = .fn (.yield l0) [] []) (hraw : evalL X.G st.env as.toList = some raw) (hnt : (raw.map strip).any j1 = false)
  (himp : VImps P (raw.map strip) args) (hnt' : args.any j1 = false) (hHR : ∀ l ob, get HR l = some ob → ∃ ob1, get st.heap l = some ob1 ∧ ObImp P ob1 ob) (hH : ∀ l ob, get H l = some ob → l ∉ X.R ∧ ∃ ob1, get st.heap l = some ob1 ∧ ObImp P ob1 ob)
  (hc : aW2 P X l0 args HR H v H') (hd : C5 X.n o.dst = true) : ExecG P X ops C st o a w { v := v, heap := H' } := by
 intro K Q hK
 rw [if_pos ((Guard.none hg).wanted h)]
 intro hnd
 have e1 := bl8 (by rw [← hfv]; exact h.eval hfo)
 have har := (h.evalL hraw).vfs (M5 hnt)
 have hvf : VFs P C w args (as.toList.map a.eval) := har.imp himp (M5 hnt')
 have hF : Frag P X.G C w HR H := by
  refine ⟨fun l ob hl => ?_, fun l l' b R R' ob ob' h1 h2 => ?_, fun l ob b R o' hl => ?_, h.dLt, fun b q k hb => ?_, h.gl⟩
  case refine_1 =>
   rw [c8] at hl
   cases hg : get HR l with
   | some ob' =>
    rw [hg] at hl
    simp at hl
    subst hl
    obtain ⟨ob1, k1, k2, k3⟩ := hHR l ob' hg
    obtain ⟨b, f1, _, f3⟩ := h.heap l ob1 k1
    exact ⟨b, by rw [← k2]; exact f1, k3 _ _ _ _ f3⟩
   | none =>
    rw [hg] at hl
    obtain ⟨_, ob1, k1, k2, k3⟩ := hH l ob (by simpa using hl)
    obtain ⟨b, f1, _, f3⟩ := h.heap l ob1 k1
    exact ⟨b, by rw [← k2]; exact f1, k3 _ _ _ _ f3⟩
  all_goals
   have inH : ∀ l ob, get (HR ++ H) l = some ob → ∃ ob1, get st.heap l = some ob1 := fun l ob hl => by
    rw [c8] at hl
    cases hg : get HR l with
    | some ob' => obtain ⟨ob1, k1, _⟩ := hHR l ob' hg; exact ⟨ob1, k1⟩
    | none =>
     rw [hg] at hl
     obtain ⟨_, ob1, k1, _⟩ := hH l ob (by simpa using hl)
     exact ⟨ob1, k1⟩
  case refine_2 =>
   obtain ⟨p1, f1⟩ := inH l ob h1
   obtain ⟨p2, f2⟩ := inH l' ob' h2
   exact h.inj l l' b R R' p1 p2 f1 f2
  case refine_3 =>
   obtain ⟨p1, f1⟩ := inH l ob hl
   exact h.dObj l p1 b R o' f1
  case refine_4 =>
   obtain ⟨_, g2, g3, g4⟩ := h.own b q k hb
   refine ⟨g2, g3, fun l ob R hl => ?_⟩
   obtain ⟨p1, f1⟩ := inH l ob hl
   exact g4 l p1 R f1
 obtain ⟨f, tmps, assign, body, hrun, hround⟩ := hc C w (as.map a.eval) h.kin h.framed (fun b o hD => h.keep b o hD) hF (by simpa using hvf)
 have hex : (execOp a.eval o).run P w = .ok (.round l0 f tmps assign body) w := by
  obtain ⟨dst, op, type, pos, after, guard⟩ := o
  simp only at hop
  subst hop
  simp [execOp, resolve, e1, Deferred.ofValue, invoke, hrun]
 refine ⟨fun _ _ => trivial, ?_⟩
 rw [Oper.semAt_eq _ _ _ (fun c e => by rw [hop] at e; cases e), hex, Oper.uponIn_round]
 refine ⟨fun hd => by simp [rf, Fence.wide] at hd, RoundIn.mono (show RoundIn (rf X.ro) 0 P l0 f tmps assign body w _ from hround) fun e w' ⟨y, C', hy, A⟩ => ?_⟩
 subst hy
 have hs := h.called A (fun l ob hl => let ⟨k1, ob1, k2, _⟩ := hH l ob hl; ⟨k1, ob1, k2⟩) (fun l hl => by cases hl)
 refine hK C' y w' ?_ ⟨fun l ob hl => A.rho l (by simp), fun l ob b R hl hg hb => ?_⟩ (fun L d hL => by simp at hL)
 ·cases hdst : o.dst with
  | none => exact hs
  | some d => exact hs.put (t6 hd d hdst) (A.val.vt d)
 ·refine A.block b (h.block_lt hl hb) ?_
  rintro (⟨l2, ob2, R2, h1, h2⟩ | ⟨l2, p, k, ob2, h1, h2⟩)
  ·obtain ⟨_, ob3, h3, _⟩ := hH l2 ob2 h1
   have := h.inj l l2 b R R2 ob ob3 hl h3 hb h2
   subst this
   obtain ⟨ob4, h4⟩ := A.keys l ob2 h1
   simp only at hg
   rw [h4] at hg
   cases hg
  ·exact (h.own b _ k h1).2.2.2 l ob R hl hb
section
variable {X : Ctx} {ops : Array Oper} {env : List (Nat × PV)} {heap : List (Nat × Ob)} {dr : Bool} {s0 : St} {K : St → Prop} {dn : List Item} {rest : List Oper} {d : Nat} {ty : TypeId} {pos : String} {after : Array Edge}
theorem aG6 {fo : Operand} {as : Array Operand} {ts : Array TypeId} {l0 : Nat} {r : PV} {vs args : List PV} {HR H H' : List (Nat × Ob)} {v : PV} (hc : aW2 P X l0 args HR H v H')
  (c : WalkR P X ops dr s0 K (dn ++ [⟨⟨some d, .call ⟨.value fo, as, ts⟩, ty, pos, after, none⟩, { v := v, heap := H' }, { reads := c9 (fo :: as.toList), hreads := e9 HR ++ e9 H, labs := v.labs ++ u4 H' }⟩]) ⟨(d, v) :: env, H' ++ heap⟩ rest)
  (hfo : b9 X.G env fo = some r := by rfl) (hfv : strip r = .fn (.yield l0) [] [] := by rfl)
  (h : EvL X env true as.toList vs := by repeat (first | exact EvL.nil | (apply EvL.cons; (first | (focus (apply Ev.mk; exact rfl; (repeat constructor); done))))))
  (himp : VImps P vs args := by repeat (first | exact VImps.nil | (apply VImps.cons; first | exact VImp.refl _ | exact LowI.imp | (focus (apply d4; apply b4 <;> omega)) | (focus (apply ToPu.imp; (repeat constructor); done)))))
  (hHR : OutH P heap HR := by repeat (first | exact OutH.nil | refine OutH.cons rfl (ObImp.refl _) ?_)) (hH : InH P X.R heap H := by repeat (first | exact InH.nil | refine InH.cons rfl rfl (ObImp.refl _) ?_))
  (hn : vs.any j1 = false := by rfl) (hn' : args.any j1 = false := by rfl) (hd : lb d X.n = true := by rfl) :
  WalkR P X ops dr s0 K dn ⟨env, heap⟩ (⟨some d, .call ⟨.value fo, as, ts⟩, ty, pos, after, none⟩ :: rest) := by
 obtain ⟨raw, h1, h2⟩ := h.raw rfl
 refine WalkR.cons (st := ⟨env, heap⟩) ⟨fun l hl => ?_, fun L hL => by simp at hL, fun st' ha hn0 C a w hs _ => ?_⟩ c
 ·simp only [List.mem_append]
  rcases hl with hl | ⟨q, hq, _⟩ | ⟨q, hq, hl⟩
  ·exact .inl hl
  ·cases hq
  ·exact .inr (J6 hq hl)
 ·have hfo' : b9 X.G st'.env fo = some r := by
   rw [d5 (env := env) fun t e => ha.env t (f0 (by rw [e]; simp))];exact hfo
  have hr : evalL X.G st'.env as.toList = some raw := by
   rw [u6 (env := env) fun t ht => ha.env t (by
    unfold c9 at *
    rw [List.filterMap_cons]
    split
    ·exact ht
    ·exact List.mem_cons_of_mem _ ht)]
   exact h1
  refine aT7 hs rfl rfl hfo' hfv hr (by rw [h2]; exact hn) (by rw [h2]; exact himp) hn' (fun l ob hl => ?_) (fun l ob hl => ?_) hc (by simp [C5, F6 hd])
  ·obtain ⟨ob1, k1, k2⟩ := hHR.at l ob hl
   exact ⟨ob1, by rw [ha.heap l (by simp only [List.mem_append]; exact .inl (m4 hl))]; exact k1, k2⟩
  ·obtain ⟨k0, ob1, k1, k2⟩ := hH.at l ob hl
   exact ⟨k0, ob1, by rw [ha.heap l (by simp only [List.mem_append]; exact .inr (m4 hl))]; exact k1, k2⟩
end
end
section
variable {P : Program} {α β : Type}
theorem aS6 : ∀ (l : List (Nat × Value)) (t : Array Value), (l.map (·.1)).Nodup → (∀ q ∈ l, q.1 < t.size) →
  (l.foldl (fun (t : Array Value) q => t.setIfInBounds q.1 q.2) t).size = t.size ∧ ∀ i, (l.foldl (fun (t : Array Value) q => t.setIfInBounds q.1 q.2) t)[i]? = (get l i).or t[i]?
 | [], t, _, _ => ⟨rfl, fun i => by simp [get]⟩
 | (k, v) :: l, t, hn, hs => by
  simp only [List.map_cons, List.nodup_cons] at hn
  obtain ⟨h1, h2⟩ := aS6 l (t.setIfInBounds k v) hn.2 (fun q hq => by simpa using hs q (by simp [hq]))
  simp only [List.foldl_cons]
  refine ⟨by rw [h1]; simp, fun i => ?_⟩
  rw [h2, f8]
  by_cases e : i = k
  ·subst e
   have hnone : get l i = none := by
    cases hg : get l i with
    | none => rfl
    | some u => exact absurd (m4 hg) hn.1
   have := hs (i, v) (by simp)
   simp [hnone, this]
  ·simp [e, Array.getElem?_setIfInBounds_ne (Ne.symm e)]
theorem bj0 {C : Cfg} {w : World} : ∀ {ps : List Nat} {vs : List PV} {xs : List Value}, VFs P C w vs xs → ∀ i u, get (ps.zip vs) i = some u → ∃ x, get (ps.zip xs) i = some x ∧ VR P C w none u x.cells.toList ∧ d7 x = u.isAgg
 | [], _, _, _, i, u, h => by simp [get] at h
 | _ :: _, _, _, .nil, i, u, h => by simp [get] at h
 | p :: ps, _, _, .cons (v := v) (vs := vs) hv hs ht, i, u, h => by
  simp only [List.zip_cons_cons, f8] at h ⊢
  split at h
  ·rename_i e
   simp at h
   subst h;exact ⟨_, by rw [if_pos e], hv, hs⟩
  ·rename_i e
   simp only [if_neg e]
   exact bj0 ht i u h
theorem ai8 : ∀ {ps : List Nat} {vs : List PV} {xs : List Value}, vs.length = xs.length → ∀ i, get (ps.zip vs) i = none → get (ps.zip xs) i = none
 | [], _, _, _, i, _ => by simp [get]
 | _ :: _, [], [], _, i, _ => by simp [get]
 | p :: ps, v :: vs, x :: xs, hl, i, h => by
  simp only [List.zip_cons_cons, f8] at h ⊢
  split at h
  ·cases h
  ·rename_i e
   rw [if_neg e];exact ai8 (by simpa using hl) i h
def aR2 : PV → Bool
 | .ow _ _ _ => false
 | .fl _ _ => false
 | .tup _ => false
 | .agg _ _ => false
 | _ => true
theorem aR1 {v : PV} (h : aR2 v = true) : strip v = v ∧ ∀ vs, v ≠ .tup vs := by
 cases v <;> simp_all [aR2, strip]
def busy (r : Loop) : Loop := { r with state := .busy }
def aE3 (r : Loop) (c : Code) : Loop := { r with state := .done, pending := some c }
def ag1 : Exit → Option Code
 | .ret => some .ret
 | .exit id => some (.exit id)
 | .goto t => some (.goto t)
 | _ => none
def bc2 (o : Option Code) (e : Exit) : Prop := match o with
 | none => e = .normal
 | some c => ag1 e = some c
def J5 (lam : Nat) (r : Loop) (H : List (Nat × Ob)) (Hs : β → List (Nat × Ob)) (jc : β → Code) : Option β → List (Nat × Ob)
 | none => (lam, .loop r) :: H
 | some z => (lam, .loop (aE3 r (jc z))) :: Hs z
def YC (P : Program) (X : Ctx) (l lam : Nat) (r : Loop) (HR H : List (Nat × Ob)) (enc : α → List PV) (out : α → Option β) (jc : β → Code) (Hs : β → List (Nat × Ob)) (x : α) : Prop :=
 aW2 P X l (enc x) HR ((lam, .loop r) :: H) (bv (out x).isNone) (J5 lam r H Hs jc (out x))
def IterC (P : Program) (G : List (Nat × TypeId × Pu)) (f : FuncId) (captured : List PV) (lam : Nat) (L' : List Nat) (HR H : List (Nat × Ob)) (items : List α) (enc : α → List PV) (out : α → Option β) (jc : β → Code) (Hs : β → List (Nat × Ob)) : Prop :=
 ∀ (l : Nat) (r : Loop) (C : Cfg) (w : World) (xs : Array Value), Frag P G C w HR ((lam, .loop r) :: H) → VFs P C w (.fn (.yield l) [] [] :: captured) xs.toList →
  (∀ X : Ctx, X.w0 = w → X.M = I8 C ((lam, .loop r) :: H) → X.G = G → X.ρ0 = C.ρ → X.D0 = C.D → X.L = L' → ∀ x ∈ items, YC P X l lam r HR H enc out jc Hs x) →
  Calls P f xs w fun e w' => ∃ y C', e = .returned y ∧ After P C w ((lam, .loop r) :: H) [] C' w' (J5 lam r H Hs jc (items.findSome? out)) (.tup []) y
theorem al5 {HR H H' : List (Nat × Ob)} {v : PV} {L news : List Nat} (hchk : af9 HR H H' v L news = true) :
  (∀ l ob, get HR l = some ob → B1 ob = true) ∧ (∀ l ob, get H' l = some ob → get HR l = none) ∧ (∀ l ∈ v.labs, l ∈ L ∨ l ∈ news) ∧ (∀ l ob, get H' l = some ob → (l ∈ L ∨ l ∈ news) ∧ ∀ l' ∈ ob.labs, l' ∈ L ∨ l' ∈ news) ∧ (∀ l ob, get H l = some ob → ∃ ob', get H' l = some ob') := by
 unfold af9 at hchk
 simp only [Bool.and_eq_true] at hchk
 obtain ⟨⟨⟨⟨c1, c2⟩, c3⟩, c4⟩, c5⟩ := hchk
 have inL : ∀ l, (L ++ news).contains l = true → l ∈ L ∨ l ∈ news := fun l hl => by
  simpa using hl
 refine ⟨fun l ob hl => List.all_eq_true.1 c1 _ (D1 hl), fun l ob hl => m6 c2 hl, fun l hl => inL l (List.all_eq_true.1 c3 l hl), fun l ob hl => ?_, fun l ob hl => ?_⟩
 ·have := List.all_eq_true.1 c4 _ (D1 hl)
  simp only [Bool.and_eq_true] at this
  exact ⟨inL l this.1, fun l' hl' => inL l' (List.all_eq_true.1 this.2 l' hl')⟩
 ·have := List.all_eq_true.1 c5 l (m4 hl)
  exact k8 (by simpa [e9] using this)
theorem IterC.of_tri {G : List (Nat × TypeId × Pu)} (hT : j3 P = true) {f : FuncId} {fn : Func} {c : Code} (n : Nat) (hf : P.funcs[f]? = some fn) (hb : fn.body = some c) {captured : List PV} {lam : Nat} {L' : List Nat} {HR H : List (Nat × Ob)} {items : List α} {enc : α → List PV} {out : α → Option β} {jc : β → Code} {Hs : β → List (Nat × Ob)}
  (hn : n = (captured.length + 1) + (fn.ntmps - (captured.length + 1))) (hchk : ∀ r z, af9 HR ((lam, .loop r) :: H) (J5 lam r H Hs jc z) (.tup []) L' [] = true)
  (h : ∀ l r w0 M ρ0 D0, (∀ x ∈ items, YC P ⟨w0, n, M, G, L', e9 HR, ρ0, D0, none⟩ l lam r HR H enc out jc Hs x) →
   Tri P ⟨w0, n, M, G, L', e9 HR, ρ0, D0, none⟩ c ⟨L9 0 (.fn (.yield l) [] [] :: captured), HR ++ (lam, .loop r) :: H⟩ fun e st =>
    (e = .normal ∨ e = .ret) ∧ (∃ u, res P st fn.results.toList = some u ∧ VImp P u (.tup [])) ∧ OutH P st.heap (J5 lam r H Hs jc (items.findSome? out))) : IterC P G f captured lam L' HR H items enc out jc Hs := by
 intro l r C w xs F hx hy
 obtain ⟨c1, c2, c3, c4, c5⟩ := al5 (hchk r (items.findSome? out))
 refine HCall.of_triX hT hf hb (L := L') (n := n) (by simpa using hn) c1 c2 c3 c4 c5 ?_ F hx
 rintro ⟨w0, n', M, G', L, R, ρ0, D0, ro⟩ hw hM hn hG hL hR hro hρ hD
 have hy' := hy ⟨w0, n', M, G', L, R, ρ0, D0, ro⟩ hw hM hG hρ hD hL
 simp only at hw hM hn hG hL hR hro hρ hD
 subst hw hn hG hL hR hro
 exact (h l r w0 M ρ0 D0 hy').mono fun e st ⟨he, hu, ho⟩ => ⟨he, st, Ghost.refl _, hu, ho.at⟩
theorem YC.of_tri {X X1 : Ctx} {C1 : Cfg} {w1 : World} {l lam : Nat} {r : Loop} {HR H : List (Nat × Ob)} {enc : α → List PV} {out : α → Option β} {jc : β → Code} {Hs : β → List (Nat × Ob)} {x : α} {env' : List (Nat × PV)} {L : List Nat} {st1 : St} {a1 : Act}
  (hX : X.w0 = w1) (hρ : X.ρ0 = C1.ρ) (hD : X.D0 = C1.D) (hG : X.G = X1.G) (hs1 : SatC P X1 C1 st1 a1 w1) (hlam : lam ∈ X.L) (hl : C1.ρ lam = some (l, .loop)) (hr0 : r.state = .ready) (hr1 : r.pending = none) (hr2 : r.tmps = a1.tmps)
  (henv : ∀ i v, get env' i = some v → get st1.env i = some v ∧ aR2 v = true ∧ ∀ l ∈ v.labs, l ∈ X.L) (hps : r.params.toList.Nodup) (hps2 : ∀ p ∈ r.params.toList, p < X1.n) (hlen : (enc x).length = r.params.size)
  (hchk : ∀ z, af9 HR ((lam, .loop r) :: H) (J5 lam r H Hs jc z) (bv z.isNone) L [] = true)
  (h : ∀ w0 M ρ0 D0, Tri P ⟨w0, X1.n, M, X1.G, L, e9 HR, ρ0, D0, some l⟩ r.assign ⟨r.params.toList.zip (enc x) ++ env', HR ++ (lam, .loop r) :: H⟩ (ah0 (fun st => get st.heap lam = some (.loop r) ∧
   Tri P ⟨w0, X1.n, M, X1.G, L, e9 HR, ρ0, D0, some l⟩ r.body ⟨st.env, (lam, .loop (busy r)) :: st.heap⟩ fun e st => get st.heap lam = some (.loop (busy r)) ∧ bc2 ((out x).map jc) e ∧ OutH P st.heap (match out x with | none => H | some z => Hs z)) fun _ _ => False)) :
  YC P X l lam r HR H enc out jc Hs x := by
 intro C w xs hk hf hkeep F hx
 have hlx : xs.size = r.params.size := by
  rw [← hlen, hx.length]; simp
 have hCl : C.ρ lam = some (l, .loop) := (hk.rho lam hlam).trans (by rw [hρ]; exact hl)
 have hFl : w.heap[l]? = some (.loop r) := by
  have hgl : get (HR ++ (lam, Ob.loop r) :: H) lam = some (.loop r) := by
   rw [c8]
   cases hg : get HR lam with
   | none => simp [get]
   | some ob =>
    have := (al5 (hchk none)).2.1 lam (.loop r) (by simp [J5, get])
    rw [hg] at this; cases this
  obtain ⟨b, e1, e2⟩ := F.heap lam _ hgl
  rw [hCl] at e1
  simp at e1
  rw [e1.1];exact e2
 refine ⟨_, _, _, _, run_yield hFl hlx, roundIn_of_wpIn trivial ?_⟩
 obtain ⟨c1, c2, c3, c4, c5⟩ := al5 (hchk (out x))
 obtain ⟨T, hT⟩ : ∃ T, (r.params.zip xs).foldl (fun tmps (t, a) => tmps.setIfInBounds t a) r.tmps = T := ⟨_, rfl⟩
 have hTl : T = (r.params.toList.zip xs.toList).foldl (fun (t : Array Value) q => t.setIfInBounds q.1 q.2) r.tmps := by
  rw [← hT, ← Array.foldl_toList]; simp
 have hmap : ((r.params.toList.zip xs.toList).map (·.1)) = r.params.toList := by
  rw [List.map_fst_zip (by simp [hlx])]
 obtain ⟨hT1, hT2⟩ := aS6 (r.params.toList.zip xs.toList) r.tmps (by rw [hmap]; exact hps) (fun q hq => by
  have : q.1 ∈ (r.params.toList.zip xs.toList).map (·.1) := List.mem_map.2 ⟨q, hq, rfl⟩
  rw [hmap] at this
  rw [hr2, hs1.size]
  exact hps2 _ this)
 rw [← hTl] at hT1 hT2
 rw [hT]
 let Xr : Ctx := ⟨w, X1.n, I8 C ((lam, .loop r) :: H), X1.G, L, e9 HR, C.ρ, C.D, some l⟩
 have stays : ∀ (ls : List Nat), (∀ l ∈ ls, l ∈ X.L) → Stays C1 C w1 w ls (fun _ => False) := fun ls hls => by
  refine ⟨fun b o hb => ?_, fun l' hl' => by rw [hk.rho l' (hls l' hl'), hρ], fun b q k hb hq => hq.elim, by rw [← hX]; exact hf.ty⟩
  rw [← hD] at hb
  exact ⟨hk.dOld b o hb, by rw [hkeep b o hb, hX]⟩
 obtain ⟨C0, hsat⟩ : ∃ C0, SatC P Xr C0 ⟨r.params.toList.zip (enc x) ++ env', HR ++ (lam, .loop r) :: H⟩ { tmps := T, defers := [] } w := by
  refine Frag.sat (X := Xr) (a := { tmps := T, defers := [] }) F rfl rfl hG.symm rfl rfl rfl c1 (by show T.size = X1.n; rw [hT1, hr2]; exact hs1.size) rfl fun i u hu => ?_
  rw [c8] at hu
  show ∃ x, T[i]? = some x ∧ _
  rw [hT2]
  cases hg : get (r.params.toList.zip (enc x)) i with
  | some u' =>
   rw [hg] at hu
   simp at hu
   subst hu
   obtain ⟨y, h1, h2, h3⟩ := bj0 hx i _ hg
   exact ⟨y, by rw [h1]; rfl, h2, h3⟩
  | none =>
   rw [hg] at hu
   have hu' : get env' i = some u := by simpa using hu
   obtain ⟨h1, h2, h3⟩ := henv i u hu'
   obtain ⟨y, k1, k2⟩ := hs1.env i u h1
   obtain ⟨k3, k4⟩ := aR1 h2
   obtain ⟨k5, k6⟩ := k2.strip k4
   rw [k3] at k5 k6
   refine ⟨y, ?_, k5.mono ((stays _ h3).weak (fun _ h => h) fun q hq => by simp [Keeps] at hq), k6⟩
   rw [ai8 (by rw [hx.length]) i hg, hr2]
   simpa using k1
 refine wpIn_mono (show r.assign.wpIn (rf (some l)) 0 P _ _ w from h w _ _ _ C0 _ w hsat) fun e a2 w2 ⟨st2, C2, q2, s2⟩ => ?_
 cases e with
 | normal =>
  obtain ⟨g2, tri2⟩ := q2
  have hloop : ∀ {C3 : Cfg} {st3 : St} {a3 : Act} {w3 : World} {r3 : Loop}, SatC P Xr C3 st3 a3 w3 → get st3.heap lam = some (.loop r3) → w3.heap[l]? = some (.loop r3) ∧ C3.ρ lam = some (l, .loop) := fun {C3 st3 a3 w3 r3} s3 g3 => by
   obtain ⟨b, e1, e2, e3⟩ := s3.heap lam _ g3
   have hLm : lam ∈ L := by
    obtain ⟨ob', hob'⟩ := c5 lam (.loop r) (by simp [get])
    rcases (c4 lam ob' hob').1 with h1 | h1
    ·exact h1
    ·cases h1
   have := (s3.kin.rho lam hLm).symm.trans e1
   simp only [Xr] at this
   rw [hCl] at this
   simp at this
   rw [← this.1] at e1 e3
   exact ⟨e3, e1⟩
  have hturn : ∀ {C3 : Cfg} {st3 : St} {a3 : Act} {w3 : World} {r3 : Loop} (r4 : Loop), SatC P Xr C3 st3 a3 w3 → get st3.heap lam = some (.loop r3) → SatC P Xr C3 ⟨st3.env, (lam, .loop r4) :: st3.heap⟩ a3 (w3.putObj l (.loop r4)) := fun {C3 st3 a3 w3 r3} r4 s3 g3 => by
   obtain ⟨k1, k2⟩ := hloop s3 g3
   have hlt := C8 k1
   have hcell : ∀ b o, (w3.putObj l (.loop r4)).cell? ⟨b, o, none⟩ = w3.cell? ⟨b, o, none⟩ := fun b o => by
    by_cases e : b = l
    ·subst e
     simp only [World.cell?, World.putObj_heap_same hlt, k1]
    ·simp only [World.cell?, World.putObj_heap_other e]
   have hty : TyKeep w3 (w3.putObj l (.loop r4)) := fun b c E hb => ⟨c, by
    have : b ≠ l := fun e => by subst e; rw [k1] at hb; cases hb
    rw [World.putObj_heap_other this]; exact hb⟩
   have st : ∀ (ls : List Nat) keep, Stays C3 C3 w3 (w3.putObj l (.loop r4)) ls keep := fun ls keep =>
    ⟨fun b o hD => ⟨hD, hcell b o⟩, fun _ _ => rfl, fun b q k hb _ => ⟨hb, World.putObj_heap_other fun e => by
     subst e
     exact (s3.own b q k hb).2.2.2 lam _ _ g3 k2⟩, hty⟩
   refine s3.write (w' := w3.putObj l (.loop r4)) (ob' := .loop r4) g3 (fun hR => ?_) k2 rfl ⟨rfl, rfl, rfl, by simp, fun b' hb => World.putObj_heap_other hb, hty⟩ st3.env rfl rfl (fun b1 q k hb => ⟨q, hb⟩) (fun i v hv => ?_) (fun l' ob1 _ _ => st _ _) (World.putObj_heap_same hlt) (st _ _)
   ·obtain ⟨q, hq, hq2⟩ := List.mem_map.1 hR
    obtain ⟨o', ho'⟩ := k8 (a := HR) (i := lam) (List.mem_map.2 ⟨q, hq, hq2⟩)
    obtain ⟨ob', hob'⟩ := c5 lam (.loop r) (by simp [get])
    rw [c2 lam ob' hob'] at ho'
    cases ho'
   ·obtain ⟨y, h1, h2⟩ := s3.env i v hv
    exact ⟨y, h1, h2.mono (st _ _)⟩
  obtain ⟨k1, _⟩ := hloop s2 g2
  refine ⟨_, run_beginRound k1 hr0, ?_⟩
  refine wpIn_mono (show r.body.wpIn (rf (some l)) 0 P _ _ _ from tri2 C2 _ _ (hturn (busy r) s2 g2)) fun e a3 w3 ⟨st3, C3, ⟨g3, hend, ho⟩, s3⟩ => ?_
  obtain ⟨k3, _⟩ := hloop s3 g3
  have fin : ∀ (jump : Option Code), jump = (out x).map jc → ∃ v w', (Instr.endRound l jump).run P w3 = .ok v w' ∧ ∃ y C', Ending.returned v = .returned y ∧ After P C w ((lam, .loop r) :: H) [] C' w' (J5 lam r H Hs jc (out x)) (bv (out x).isNone) y := fun jump hj => by
   refine ⟨.bool jump.isNone, w3.putObj l (.loop { busy r with state := if jump.isNone then .ready else .done, pending := jump }), run_endRound jump k3, .bool jump.isNone, ?_⟩
   have s4 := hturn { busy r with state := if jump.isNone then .ready else .done, pending := jump } s3 g3
   suffices hob : ∀ l' ob, get (J5 lam r H Hs jc (out x)) l' = some ob → ∃ ob1, get ((lam, Ob.loop { busy r with state := if jump.isNone then .ready else .done, pending := jump }) :: st3.heap) l' = some ob1 ∧ ObImp P ob1 ob by
    obtain ⟨C', A⟩ := s4.after (H' := J5 lam r H Hs jc (out x)) (v := bv (out x).isNone) (u := bv (out x).isNone) (y := .bool jump.isNone) rfl rfl rfl rfl rfl rfl c2 c3 c4 c5 hob (by rw [show jump.isNone = (out x).isNone by rw [hj, Option.isNone_map]]; exact VW.bv_mk) (VImp.refl _)
    exact ⟨C', rfl, A⟩
   intro l' ob hl'
   ·cases hz : out x with
    | none =>
     rw [hz] at hl' hj ho
     simp only [J5, f8] at hl'
     simp only [f8]
     split at hl'
     ·rename_i e
      simp at hl'
      subst hl';rw [if_pos e]
      refine ⟨_, rfl, ?_⟩
      simp only [Option.map_none] at hj
      subst hj
      have : ({ busy r with state := if (none : Option Code).isNone then .ready else .done, pending := none } : Loop) = r := by
       cases r; simp only at hr0 hr1; subst hr0 hr1; rfl
      rw [this];exact ObImp.refl _
     ·rename_i e
      rw [if_neg e];exact ho.at l' ob hl'
    | some z =>
     rw [hz] at hl' hj ho
     simp only [J5, f8] at hl'
     simp only [f8]
     split at hl'
     ·rename_i e
      simp at hl'
      subst hl';rw [if_pos e]
      refine ⟨_, rfl, ?_⟩
      simp only [Option.map_some] at hj
      subst hj;exact ObImp.refl _
     ·rename_i e
      rw [if_neg e];exact ho.at l' ob hl'
  unfold bc2 at hend
  cases e with
  | normal => exact fin none (by cases hz : (out x).map jc with
    | none => rfl
    | some c => rw [hz] at hend; simp [ag1] at hend)
  | ret => exact fin (some .ret) (by cases hz : (out x).map jc with
    | none => rw [hz] at hend; simp at hend
    | some c => rw [hz] at hend; simpa [ag1] using hend)
  | exit id => exact fin (some (.exit id)) (by cases hz : (out x).map jc with
    | none => rw [hz] at hend; simp at hend
    | some c => rw [hz] at hend; simpa [ag1] using hend)
  | goto t => exact fin (some (.goto t)) (by cases hz : (out x).map jc with
    | none => rw [hz] at hend; simp at hend
    | some c => rw [hz] at hend; simpa [ag1] using hend)
  | panic c => exact absurd hend (by cases (out x).map jc <;> simp [ag1])
  | outgrown => exact absurd hend (by cases (out x).map jc <;> simp [ag1])
 | _ => exact q2.elim
end
end Hs
